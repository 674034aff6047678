import Derived.Test.YtjlggcgmmpopmaaGreatDoorV9
set_option maxRecDepth 100000
set_option maxHeartbeats 2000000
set_option linter.unusedVariables false
set_option linter.unusedSimpArgs false
namespace Go.Proofs
open Go Go.Ab
def Z26_q10 (a0 : TValue) (a1 : Bs) : List Bs → Nat → Option (Unit ⊕ ((TValue × Bool)))
 | [], s6_11 => some (Sum.inl ())
 | h10 :: r10, s6_11 => on (h10) fun x19 => bif ((x19 == a1)) then (bif (decide (((a0.FItems.l.length : Nat) : Int) ≤ ((s6_11 : Nat) : Int))) then (some (Sum.inr ((TValue.mk (0 : Int) (0 : Int) ([] : Bs) true ([]) (Sl.nil : Sl Bs)), false))) else ((a0.FItems.l[s6_11]?).bind fun x27 => (r02_Copy_q x27).bind fun x28 => some (Sum.inr (x28, true)))) else (Z26_q10 a0 a1 (r10) (s6_11 + 1) )
theorem Z26_l10_qe {a0 : TValue} {a1 : Bs}  (Kb10 : (Unit ⊕ ((TValue × Bool))) → Option (TValue × Bool)) (hend : ∀ (n10 : Nat) (s6_11 : Nat) (y12_l0 : TValue), Z26_j6   y12_l0 = Kb10 (Sum.inl ())) (hret : ∀ e : (TValue × Bool), some e = Kb10 (Sum.inr e)) : ∀ (n10 : Nat) (s6_11 : Nat) (y12_l0 : TValue), (0 < n10 ∧ a0.FKeys.l.length < s6_11 + n10) → Z26_l10 a0 a1 n10 s6_11 y12_l0 = Option.bind (Z26_q10 a0 a1 (a0.FKeys.l.drop s6_11) s6_11 ) Kb10 := by
 intro n10
 induction n10 with
 | zero => intro s6_11 y12_l0 hn; exact absurd hn.1 (by omega)
 | succ n10 ih10 =>
  intro s6_11 y12_l0 hn
  rw [Z26_l10]
  by_cases hlt : s6_11 < a0.FKeys.l.length
  ·obtain ⟨h10, hh10⟩ : ∃ x, a0.FKeys.l[s6_11]? = some x := ⟨_, List.getElem?_eq_getElem hlt⟩
   rw [Q.drop_of hh10, Z26_q10]
   refine Q.condT (Q.ltT hlt) ?_
   refine Q.bindPO hh10 fun x19 hx_x19 => ?_
   refine Q.condO ?_ ?_
   ·refine Q.condO ?_ ?_
    ·all_goals exact hret _
    refine Q.bindO rfl fun x27 => ?_
    refine Q.bindO (r02_Copy_eq _) fun x28 => ?_
    all_goals exact hret _
   all_goals exact ih10 _ _ ⟨by omega, by omega⟩
  rw [List.drop_of_length_le (by omega), Z26_q10]
  refine Q.condF (Q.ltF hlt) ?_
  exact hend n10 s6_11 y12_l0
def Z26_q (a0 : TValue) (a1 : Bs) : Option (TValue × Bool) := bif (!decide (a0.FKind = (6 : Int))) then (some ((TValue.mk (0 : Int) (0 : Int) ([] : Bs) true ([]) (Sl.nil : Sl Bs)), false)) else (Option.bind (Z26_q10 a0 a1 a0.FKeys.l 0 ) fun o10 => match o10 with | Sum.inl _ => (on (()) fun _ => some ((TValue.mk (0 : Int) (0 : Int) ([] : Bs) true ([]) (Sl.nil : Sl Bs)), false)) | Sum.inr e10 => (some e10))
theorem Z26_eq (a0 : TValue) (a1 : Bs) : Z26 a0 a1 = Z26_q a0 a1 := by
 unfold Z26 Z26_q
 refine Eq.trans ?_ (Q.some_bind _)
 refine Q.condO ?_ ?_
 ·all_goals rfl
 refine Q.wrapOO fun Kb10 hKb10 => ?_
 refine Z26_l10_qe  Kb10 ?_ ?_ _ _ _ ⟨Nat.succ_pos _, by omega⟩
 ·intro n10 s6_11 y12_l0
  refine Eq.trans ?_ (hKb10 _).symm
  try dsimp only
  refine Q.wrapPO fun Kj6 hKj6 => ?_
  have hj6 : ∀ (y7_l0 : TValue), Z26_j6  y7_l0 = Kj6 () := by
   intro y7_l0
   refine Eq.trans ?_ (hKj6 _).symm
   unfold Z26_j6
   all_goals rfl
  all_goals exact hj6 _
 intro e10
 refine Eq.trans ?_ (hKb10 _).symm
 try dsimp only
 all_goals rfl
def Z64_q (a0 : R12_work) (a1 : TValue) : Option Bool := bif ((!a0.Flit) || (!decide (a1.FKind = (7 : Int)))) then (some false) else ((Z26_q a0.Fvars a1.FText).bind fun x7 => some (!x7.2))
theorem Z64_eq (a0 : R12_work) (a1 : TValue) : Z64 a0 a1 = Z64_q a0 a1 := by
 unfold Z64 Z64_q
 refine Eq.trans ?_ (Q.some_bind _)
 refine Q.condO ?_ ?_
 ·all_goals rfl
 refine Q.bindO (Z26_eq _ _) fun x7 => ?_
 all_goals rfl
def Z38_q (a0 : TRef) : Bool := on (bif (decide ((0 : Int) < ((a0.FWraps.l.length : Nat) : Int))) then ((a0.FWraps.l)[0]?.getD (0 : Int)) else (0 : Int)) fun x4 => ((decide ((0 : Int) < ((a0.FWraps.l.length : Nat) : Int))) && (decide (x4 = (1 : Int))))
theorem Z38_eq (a0 : TRef) : Z38 a0 = some (Z38_q a0) := by
 unfold Z38 Z38_q
 refine Q.guardT (fun hc => Q.getD_some (by simp at hc; omega)) fun x4 hx_x4 => ?_
 all_goals rfl
def Z63_q (a0 : R12_work) (a1 : Int) : R12_work := bif (decide (a0.Ferr = (0 : Int))) then ((R12_work.mk a0.Fd a0.Fvars a0.Flit a0.Fcount a1)) else (a0)
theorem Z63_eq (a0 : R12_work) (a1 : Int) : Z63 a0 a1 = some (Z63_q a0 a1) := by
 unfold Z63 Z63_q
 refine Q.condP ?_ ?_
 ·all_goals rfl
 all_goals rfl
def Z65_q (a0 : R12_work) (a1 : Int) : Option R12_work := on (bif (decide ((24 : Int) < a1)) then (on (Z63_q a0 (5 : Int)) fun x10 => x10) else (a0)) fun y2_c0 => (addC y2_c0.Fcount (1 : Int)).bind fun x4 => bif (decide ((4096 : Int) < x4)) then (on (Z63_q (R12_work.mk y2_c0.Fd y2_c0.Fvars y2_c0.Flit x4 y2_c0.Ferr) (4 : Int)) fun x7 => some x7) else (some (R12_work.mk y2_c0.Fd y2_c0.Fvars y2_c0.Flit x4 y2_c0.Ferr))
theorem Z65_eq (a0 : R12_work) (a1 : Int) : Z65 a0 a1 = Z65_q a0 a1 := by
 unfold Z65 Z65_q
 refine Eq.trans ?_ (Q.some_bind _)
 refine Q.wrapPO fun Kj1 hKj1 => ?_
 have hj1 : ∀ (y2_c0 : R12_work), Z65_j1  y2_c0 = Kj1 y2_c0 := by
  intro y2_c0
  refine Eq.trans ?_ (hKj1 _).symm
  unfold Z65_j1
  refine Q.bindO rfl fun x4 => ?_
  refine Q.condO ?_ ?_
  ·refine Q.bindPO (Z63_eq _ _) fun x7 hx_x7 => ?_
   all_goals rfl
  all_goals rfl
 refine Q.condP ?_ ?_
 ·refine Q.bindP (Z63_eq _ _) fun x10 hx_x10 => ?_
  all_goals exact hj1 _
 all_goals exact hj1 _
def Z69_q14 (a2 : Int) (k_rec_97 : R12_work → TValue → Int → Option (TValue × R12_work)) : List TValue → R12_work → TValue → Option ((R12_work × TValue))
 | [], y16_c0, y17_l1 => some (y16_c0, y17_l1)
 | h14 :: r14, y16_c0, y17_l1 => bif (decide (y16_c0.Ferr = (0 : Int))) then (on (h14) fun x24 => (addC a2 (1 : Int)).bind fun x25 => (k_rec_97 y16_c0 x24 x25).bind fun x26 => (appC 80 y17_l1.FItems (⟨false, [x26.1]⟩ : Sl TValue)).bind fun x27 => Z69_q14 a2 k_rec_97 (r14) x26.2 (TValue.mk y17_l1.FKind y17_l1.FInt y17_l1.FText x27.nl x27.l y17_l1.FKeys)) else (some (y16_c0, y17_l1))
theorem Z69_l14_qe {a1 : TValue} {a2 : Int} {k_rec_97 : R12_work → TValue → Int → Option (TValue × R12_work)}  (Kb14 : ((R12_work × TValue)) → Option (TValue × R12_work)) (hend : ∀ (n14 : Nat) (s8_15 : Nat) (y16_c0 : R12_work) (y17_l1 : TValue), Z69_j9   y16_c0 y17_l1 = Kb14 (y16_c0, y17_l1)) : ∀ (n14 : Nat) (s8_15 : Nat) (y16_c0 : R12_work) (y17_l1 : TValue), (0 < n14 ∧ a1.FItems.l.length < s8_15 + n14) → Z69_l14 a1 a2 k_rec_97 n14 s8_15 y16_c0 y17_l1 = Option.bind (Z69_q14 a2 k_rec_97 (a1.FItems.l.drop s8_15) y16_c0 y17_l1) Kb14 := by
 intro n14
 induction n14 with
 | zero => intro s8_15 y16_c0 y17_l1 hn; exact absurd hn.1 (by omega)
 | succ n14 ih14 =>
  intro s8_15 y16_c0 y17_l1 hn
  rw [Z69_l14]
  by_cases hlt : s8_15 < a1.FItems.l.length
  ·obtain ⟨h14, hh14⟩ : ∃ x, a1.FItems.l[s8_15]? = some x := ⟨_, List.getElem?_eq_getElem hlt⟩
   rw [Q.drop_of hh14, Z69_q14]
   refine Q.condAT (Q.ltT hlt) ?_
   refine Q.condO ?_ ?_
   ·refine Q.bindPO hh14 fun x24 hx_x24 => ?_
    refine Q.bindO rfl fun x25 => ?_
    refine Q.bindO rfl fun x26 => ?_
    refine Q.bindO rfl fun x27 => ?_
    all_goals exact ih14 _ _ _ ⟨by omega, by omega⟩
   all_goals exact hend n14 s8_15 y16_c0 y17_l1
  rw [List.drop_of_length_le (by omega), Z69_q14]
  refine Q.condAF (Q.ltF hlt) ?_
  exact hend n14 s8_15 y16_c0 y17_l1
def Z69_qn : Nat → R12_work → TValue → Int → Option (TValue × R12_work)
 | 0, _, _, _ => none
 | n + 1, a0, a1, a2 => (Z65_q a0 a2).bind fun x3 => (appC 16 ((TValue.mk a1.FKind a1.FInt a1.FText true ([]) (Sl.nil : Sl Bs)).FKeys) a1.FKeys).bind fun x8 => Option.bind (Z69_q14 a2 (Z69_qn n) a1.FItems.l x3 (TValue.mk ((TValue.mk a1.FKind a1.FInt a1.FText true ([]) (Sl.nil : Sl Bs)).FKind) ((TValue.mk a1.FKind a1.FInt a1.FText true ([]) (Sl.nil : Sl Bs)).FInt) ((TValue.mk a1.FKind a1.FInt a1.FText true ([]) (Sl.nil : Sl Bs)).FText) ((TValue.mk a1.FKind a1.FInt a1.FText true ([]) (Sl.nil : Sl Bs)).FItems).nl ((TValue.mk a1.FKind a1.FInt a1.FText true ([]) (Sl.nil : Sl Bs)).FItems).l x8)) fun z14 => on ((z14.1, z14.2)) fun z9 => some (z9.2, z9.1)
theorem Z69_qall : ∀ n : Nat, Z69_n n = Z69_qn n := by
 intro n
 induction n with
 | zero => exact (by funext a0 a1 a2; first | rfl | (rw [Z69_n, Z69_qn]))
 | succ n ih =>
  funext a0 a1 a2
  refine Eq.trans ?_ (Q.some_bind _)
  rw [Z69_n, Z69_qn]
  try rw [ih]
  refine Q.bindO (Z65_eq _ _) fun x3 => ?_
  refine Q.bindO rfl fun x8 => ?_
  refine Q.wrapOO fun Kb14 hKb14 => ?_
  refine Z69_l14_qe  Kb14 ?_ _ _ _ _ ⟨Nat.succ_pos _, by omega⟩
  intro n14 s8_15 y16_c0 y17_l1
  refine Eq.trans ?_ (hKb14 _).symm
  try dsimp only
  refine Q.wrapPO fun Kj9 hKj9 => ?_
  have hj9 : ∀ (y10_c0 : R12_work) (y11_l1 : TValue), Z69_j9  y10_c0 y11_l1 = Kj9 (y10_c0, y11_l1) := by
   intro y10_c0 y11_l1
   refine Eq.trans ?_ (hKj9 _).symm
   try dsimp only
   unfold Z69_j9
   all_goals rfl
  all_goals exact hj9 _ _
def Z69_q (a0 : R12_work) (a1 : TValue) (a2 : Int) : Option (TValue × R12_work) := Z69_qn F0 a0 a1 a2
theorem Z69_eq (a0 : R12_work) (a1 : TValue) (a2 : Int) : Z69 a0 a1 a2 = Z69_q a0 a1 a2 := by
 unfold Z69 Z69_q; rw [(Z69_qall F0)]
def Z41_q (a0 : TRef) : Option TRef := (partC a0.FWraps (some (1 : Int)) none).bind fun x3 => (appC 8 (⟨false, []⟩ : Sl Int) x3).bind fun x4 => some (TRef.mk a0.FName x4)
theorem Z41_eq (a0 : TRef) : Z41 a0 = Z41_q a0 := by
 unfold Z41 Z41_q
 refine Eq.trans ?_ (Q.some_bind _)
 refine Q.bindO rfl fun x3 => ?_
 refine Q.bindO rfl fun x4 => ?_
 all_goals rfl
def Z39_q (a0 : TRef) : Option TRef := on (Z38_q a0) fun x4 => bif x4 then ((Z41_q a0).bind fun x7 => some x7) else ((appC 8 (⟨false, []⟩ : Sl Int) a0.FWraps).bind fun x9 => some (TRef.mk a0.FName x9))
theorem Z39_eq (a0 : TRef) : Z39 a0 = Z39_q a0 := by
 unfold Z39 Z39_q
 refine Eq.trans ?_ (Q.some_bind _)
 refine Q.bindPO (Z38_eq _) fun x4 hx_x4 => ?_
 refine Q.condO ?_ ?_
 ·refine Q.bindO (Z41_eq _) fun x7 => ?_
  all_goals rfl
 refine Q.bindO rfl fun x9 => ?_
 all_goals rfl
def Z37_q (a0 : TRef) : Option Bool := (Z39_q a0).bind fun x3 => on (bif (decide ((0 : Int) < ((x3.FWraps.l.length : Nat) : Int))) then ((x3.FWraps.l)[0]?.getD (0 : Int)) else (0 : Int)) fun x6 => some ((decide ((0 : Int) < ((x3.FWraps.l.length : Nat) : Int))) && (decide (x6 = (2 : Int))))
theorem Z37_eq (a0 : TRef) : Z37 a0 = Z37_q a0 := by
 unfold Z37 Z37_q
 refine Eq.trans ?_ (Q.some_bind _)
 refine Q.bindO (Z39_eq _) fun x3 => ?_
 refine Q.guardTO (fun hc => Q.getD_some (by simp at hc; omega)) fun x6 hx_x6 => ?_
 all_goals rfl
def Z36_q (a0 : TRef) : Option (TRef × Bool) := (Z37_q a0).bind fun x4 => bif (!x4) then (some ((TRef.mk ([] : Bs) (Sl.nil : Sl Int)), false)) else ((Z39_q a0).bind fun x8 => (Z41_q x8).bind fun x9 => some (x9, true))
theorem Z36_eq (a0 : TRef) : Z36 a0 = Z36_q a0 := by
 unfold Z36 Z36_q
 refine Eq.trans ?_ (Q.some_bind _)
 refine Q.bindO (Z37_eq _) fun x4 => ?_
 refine Q.condO ?_ ?_
 ·all_goals rfl
 refine Q.bindO (Z39_eq _) fun x8 => ?_
 refine Q.bindO (Z41_eq _) fun x9 => ?_
 all_goals rfl
def Z23_qn : Nat → Int → Option Bs
 | 0, _ => none
 | n + 1, a0 => (subC (48 : Int) (Int.tmod a0 (10 : Int))).bind fun x3 => bif (decide ((-10 : Int) < a0)) then (some (bytesC (⟨false, [(IntKind.wrap .u8 x3)]⟩ : Sl Int))) else (((Z23_qn n) (IntKind.wrap .i64 (Int.tdiv a0 (10 : Int)))).bind fun x9 => (catC x9 (bytesC (⟨false, [(IntKind.wrap .u8 x3)]⟩ : Sl Int))).bind fun x10 => some x10)
theorem Z23_qall : ∀ n : Nat, Z23_n n = Z23_qn n := by
 intro n
 induction n with
 | zero => exact (by funext a0; first | rfl | (rw [Z23_n, Z23_qn]))
 | succ n ih =>
  funext a0
  refine Eq.trans ?_ (Q.some_bind _)
  rw [Z23_n, Z23_qn]
  try rw [ih]
  refine Q.bindO rfl fun x3 => ?_
  refine Q.condO ?_ ?_
  ·all_goals rfl
  refine Q.bindO rfl fun x9 => ?_
  refine Q.bindO rfl fun x10 => ?_
  all_goals rfl
def Z23_q (a0 : Int) : Option Bs := Z23_qn F0 a0
theorem Z23_eq (a0 : Int) : Z23 a0 = Z23_q a0 := by
 unfold Z23 Z23_q; rw [(Z23_qall F0)]
def Z20_q (a0 : Int) : Option Bs := bif (decide (a0 < (0 : Int))) then ((Z23_q a0).bind fun x6 => (catC ([45] : Bs) x6).bind fun x7 => some x7) else ((Z23_q (IntKind.wrap .i64 (0 - a0))).bind fun x9 => some x9)
theorem Z20_eq (a0 : Int) : Z20 a0 = Z20_q a0 := by
 unfold Z20 Z20_q
 refine Eq.trans ?_ (Q.some_bind _)
 refine Q.condO ?_ ?_
 ·refine Q.bindO (Z23_eq _) fun x6 => ?_
  refine Q.bindO rfl fun x7 => ?_
  all_goals rfl
 refine Q.bindO (Z23_eq _) fun x9 => ?_
 all_goals rfl
def Z68_q (a0 : R12_work) (a1 : Bs) (a2 : TValue) : Option (TValue × R12_work) := bif (((((a1 == ([73, 110, 116] : Bs))) && (decide (a2.FKind = (2 : Int)))) && (decide ((-2147483648 : Int) ≤ a2.FInt))) && (decide (a2.FInt < (2147483648 : Int)))) then (some (a2, a0)) else (on (bif (((a1 == ([83, 116, 114, 105, 110, 103] : Bs))) && (decide (a2.FKind = (3 : Int)))) then ((((a1 == ([83, 116, 114, 105, 110, 103] : Bs))) && (decide (a2.FKind = (3 : Int))))) else (bif (((a1 == ([66, 111, 111, 108, 101, 97, 110] : Bs))) && (decide (a2.FKind = (1 : Int)))) then ((((a1 == ([66, 111, 111, 108, 101, 97, 110] : Bs))) && (decide (a2.FKind = (1 : Int))))) else ((((a1 == ([73, 68] : Bs))) && (decide (a2.FKind = (3 : Int))))))) fun s26_11 => bif s26_11 then (some (a2, a0)) else (bif (((a1 == ([73, 68] : Bs))) && (decide (a2.FKind = (2 : Int)))) then ((Z20_q a2.FInt).bind fun x17 => some ((TValue.mk (3 : Int) (0 : Int) x17 true ([]) (Sl.nil : Sl Bs)), a0)) else (on (()) fun _ => on (Z63_q a0 (23 : Int)) fun x5 => some ((TValue.mk (0 : Int) (0 : Int) ([] : Bs) true ([]) (Sl.nil : Sl Bs)), x5))))
theorem Z68_eq (a0 : R12_work) (a1 : Bs) (a2 : TValue) : Z68 a0 a1 a2 = Z68_q a0 a1 a2 := by
 unfold Z68 Z68_q
 refine Eq.trans ?_ (Q.some_bind _)
 refine Q.condO ?_ ?_
 ·all_goals rfl
 refine Q.wrapPO fun Kj10 hKj10 => ?_
 have hj10 : ∀ (s26_11 : Bool), Z68_j10 a0 a1 a2 s26_11 = Kj10 s26_11 := by
  intro s26_11
  refine Eq.trans ?_ (hKj10 _).symm
  unfold Z68_j10
  refine Q.condO ?_ ?_
  ·all_goals rfl
  refine Q.condO ?_ ?_
  ·refine Q.bindO (Z20_eq _) fun x17 => ?_
   all_goals rfl
  refine Q.wrapPO fun Kj2 hKj2 => ?_
  have hj2 : ∀ (y3_l0 : TValue), Z68_j2 a0 y3_l0 = Kj2 () := by
   intro y3_l0
   refine Eq.trans ?_ (hKj2 _).symm
   unfold Z68_j2
   refine Q.bindPO (Z63_eq _ _) fun x5 hx_x5 => ?_
   all_goals rfl
  all_goals exact hj2 _
 refine Q.condP ?_ ?_
 ·all_goals exact hj10 _
 refine Q.condP ?_ ?_
 ·all_goals exact hj10 _
 all_goals exact hj10 _
def Z62_q10 (a0 : R12_work) (a2 : TValue) : List TMember → Unit ⊕ ((TValue × R12_work))
 | [] => Sum.inl ()
 | h10 :: r10 => on (h10) fun x19 => bif ((x19.FName == a2.FText)) then (Sum.inr ((TValue.mk (4 : Int) (0 : Int) a2.FText true ([]) (Sl.nil : Sl Bs)), a0)) else (Z62_q10 a0 a2 (r10) )
theorem Z62_l10_qe {a0 : R12_work} {a1 : TDef} {a2 : TValue}  (Kb10 : (Unit ⊕ ((TValue × R12_work))) → Option (TValue × R12_work)) (hend : ∀ (n10 : Nat) (s7_11 : Nat) (y12_l0 : TValue), Z62_j2 a0  y12_l0 = Kb10 (Sum.inl ())) (hret : ∀ e : (TValue × R12_work), some e = Kb10 (Sum.inr e)) : ∀ (n10 : Nat) (s7_11 : Nat) (y12_l0 : TValue), (0 < n10 ∧ a1.FMembers.l.length < s7_11 + n10) → Z62_l10 a0 a1 a2 n10 s7_11 y12_l0 = Kb10 (Z62_q10 a0 a2 (a1.FMembers.l.drop s7_11) ) := by
 intro n10
 induction n10 with
 | zero => intro s7_11 y12_l0 hn; exact absurd hn.1 (by omega)
 | succ n10 ih10 =>
  intro s7_11 y12_l0 hn
  rw [Z62_l10]
  by_cases hlt : s7_11 < a1.FMembers.l.length
  ·obtain ⟨h10, hh10⟩ : ∃ x, a1.FMembers.l[s7_11]? = some x := ⟨_, List.getElem?_eq_getElem hlt⟩
   rw [Q.drop_of hh10, Z62_q10]
   refine Q.condT (Q.ltT hlt) ?_
   refine Q.bindP hh10 fun x19 hx_x19 => ?_
   refine Q.condP ?_ ?_
   ·all_goals exact hret _
   all_goals exact ih10 _ _ ⟨by omega, by omega⟩
  rw [List.drop_of_length_le (by omega), Z62_q10]
  refine Q.condF (Q.ltF hlt) ?_
  exact hend n10 s7_11 y12_l0
def Z62_q (a0 : R12_work) (a1 : TDef) (a2 : TValue) : (TValue × R12_work) := on (fun (_ : Unit) => on (Z63_q a0 (23 : Int)) fun x5 => ((TValue.mk (0 : Int) (0 : Int) ([] : Bs) true ([]) (Sl.nil : Sl Bs)), x5)) fun kj2 => bif ((decide (a2.FKind = (4 : Int))) || ((decide (a2.FKind = (3 : Int))) && (!a0.Flit))) then (on (Z62_q10 a0 a2 a1.FMembers.l ) fun o10 => match o10 with | Sum.inl _ => (kj2 ()) | Sum.inr e10 => (e10)) else (kj2 ())
theorem Z62_eq (a0 : R12_work) (a1 : TDef) (a2 : TValue) : Z62 a0 a1 a2 = some (Z62_q a0 a1 a2) := by
 unfold Z62 Z62_q
 refine Q.mixP fun kj2 hkj2 => ?_
 have hj2 : ∀ (y3_l0 : TValue), Z62_j2 a0 y3_l0 = some (kj2 ()) := by
  intro y3_l0
  unfold Z62_j2
  rw [hkj2]
  try dsimp only
  refine Q.bindP (Z63_eq _ _) fun x5 hx_x5 => ?_
  all_goals rfl
 refine Q.condP ?_ ?_
 ·refine Q.wrapPP fun Kb10 hKb10 => ?_
  refine Z62_l10_qe  Kb10 ?_ ?_ _ _ _ ⟨Nat.succ_pos _, by omega⟩
  ·intro n10 s7_11 y12_l0
   refine Eq.trans ?_ (hKb10 _).symm
   try dsimp only
   all_goals exact hj2 _
  intro e10
  refine Eq.trans ?_ (hKb10 _).symm
  try dsimp only
  all_goals rfl
 all_goals exact hj2 _
def Z54_q6 (a1 : Bs) : List TInput → Unit ⊕ ((TInput × Bool))
 | [] => Sum.inl ()
 | h6 :: r6 => on (h6) fun x15 => bif ((x15.FName == a1)) then (on (h6) fun x18 => Sum.inr (x18, true)) else (Z54_q6 a1 (r6) )
theorem Z54_l6_qe {a0 : (Sl TInput)} {a1 : Bs}  (Kb6 : (Unit ⊕ ((TInput × Bool))) → Option (TInput × Bool)) (hend : ∀ (n6 : Nat) (s6_7 : Nat) (y8_l0 : TInput), Z54_j2   y8_l0 = Kb6 (Sum.inl ())) (hret : ∀ e : (TInput × Bool), some e = Kb6 (Sum.inr e)) : ∀ (n6 : Nat) (s6_7 : Nat) (y8_l0 : TInput), (0 < n6 ∧ a0.l.length < s6_7 + n6) → Z54_l6 a0 a1 n6 s6_7 y8_l0 = Kb6 (Z54_q6 a1 (a0.l.drop s6_7) ) := by
 intro n6
 induction n6 with
 | zero => intro s6_7 y8_l0 hn; exact absurd hn.1 (by omega)
 | succ n6 ih6 =>
  intro s6_7 y8_l0 hn
  rw [Z54_l6]
  by_cases hlt : s6_7 < a0.l.length
  ·obtain ⟨h6, hh6⟩ : ∃ x, a0.l[s6_7]? = some x := ⟨_, List.getElem?_eq_getElem hlt⟩
   rw [Q.drop_of hh6, Z54_q6]
   refine Q.condT (Q.ltT hlt) ?_
   refine Q.bindP hh6 fun x15 hx_x15 => ?_
   refine Q.condP ?_ ?_
   ·refine Q.bindP hh6 fun x18 hx_x18 => ?_
    all_goals exact hret _
   all_goals exact ih6 _ _ ⟨by omega, by omega⟩
  rw [List.drop_of_length_le (by omega), Z54_q6]
  refine Q.condF (Q.ltF hlt) ?_
  exact hend n6 s6_7 y8_l0
def Z54_q (a0 : (Sl TInput)) (a1 : Bs) : (TInput × Bool) := on (Z54_q6 a1 a0.l ) fun o6 => match o6 with | Sum.inl _ => (on (()) fun _ => ((TInput.mk ([] : Bs) TRef.zero false TValue.zero (Sl.nil : Sl TDir)), false)) | Sum.inr e6 => (e6)
theorem Z54_eq (a0 : (Sl TInput)) (a1 : Bs) : Z54 a0 a1 = some (Z54_q a0 a1) := by
 unfold Z54 Z54_q
 refine Q.wrapPP fun Kb6 hKb6 => ?_
 refine Z54_l6_qe  Kb6 ?_ ?_ _ _ _ ⟨Nat.succ_pos _, by omega⟩
 ·intro n6 s6_7 y8_l0
  refine Eq.trans ?_ (hKb6 _).symm
  try dsimp only
  refine Q.wrapPP fun Kj2 hKj2 => ?_
  have hj2 : ∀ (y3_l0 : TInput), Z54_j2  y3_l0 = Kj2 () := by
   intro y3_l0
   refine Eq.trans ?_ (hKj2 _).symm
   unfold Z54_j2
   all_goals rfl
  all_goals exact hj2 _
 intro e6
 refine Eq.trans ?_ (hKb6 _).symm
 try dsimp only
 all_goals rfl
def Z60_q (a0 : (Sl TInput)) (a1 : Int) : Option Bool := Z60 a0 a1
theorem Z60_eq (a0 : (Sl TInput)) (a1 : Int) : Z60 a0 a1 = Z60_q a0 a1 := rfl
def r12_work_list_q12 (a1 : TRef) (a3 : Int) (k_rec_71 : R12_work → TRef → TValue → Int → Option (TValue × R12_work)) : List TValue → R12_work → TValue → Option ((R12_work × TValue))
 | [], y14_c0, y15_l1 => some (y14_c0, y15_l1)
 | h12 :: r12, y14_c0, y15_l1 => bif (decide (y14_c0.Ferr = (0 : Int))) then (on (h12) fun x22 => (addC a3 (1 : Int)).bind fun x23 => (k_rec_71 y14_c0 a1 x22 x23).bind fun x24 => (appC 80 y15_l1.FItems (⟨false, [x24.1]⟩ : Sl TValue)).bind fun x25 => r12_work_list_q12 a1 a3 k_rec_71 (r12) x24.2 (TValue.mk y15_l1.FKind y15_l1.FInt y15_l1.FText x25.nl x25.l y15_l1.FKeys)) else (some (y14_c0, y15_l1))
theorem r12_work_list_l12_qe {a1 : TRef} {a3 : Int} {s9_4 : (Sl TValue)} {k_rec_71 : R12_work → TRef → TValue → Int → Option (TValue × R12_work)}  (Kb12 : ((R12_work × TValue)) → Option (TValue × R12_work)) (hend : ∀ (n12 : Nat) (s11_13 : Nat) (y14_c0 : R12_work) (y15_l1 : TValue), r12_work_list_j7   y14_c0 y15_l1 = Kb12 (y14_c0, y15_l1)) : ∀ (n12 : Nat) (s11_13 : Nat) (y14_c0 : R12_work) (y15_l1 : TValue), (0 < n12 ∧ s9_4.l.length < s11_13 + n12) → r12_work_list_l12 a1 a3 s9_4 k_rec_71 n12 s11_13 y14_c0 y15_l1 = Option.bind (r12_work_list_q12 a1 a3 k_rec_71 (s9_4.l.drop s11_13) y14_c0 y15_l1) Kb12 := by
 intro n12
 induction n12 with
 | zero => intro s11_13 y14_c0 y15_l1 hn; exact absurd hn.1 (by omega)
 | succ n12 ih12 =>
  intro s11_13 y14_c0 y15_l1 hn
  rw [r12_work_list_l12]
  by_cases hlt : s11_13 < s9_4.l.length
  ·obtain ⟨h12, hh12⟩ : ∃ x, s9_4.l[s11_13]? = some x := ⟨_, List.getElem?_eq_getElem hlt⟩
   rw [Q.drop_of hh12, r12_work_list_q12]
   refine Q.condAT (Q.ltT hlt) ?_
   refine Q.condO ?_ ?_
   ·refine Q.bindPO hh12 fun x22 hx_x22 => ?_
    refine Q.bindO rfl fun x23 => ?_
    refine Q.bindO rfl fun x24 => ?_
    refine Q.bindO rfl fun x25 => ?_
    all_goals exact ih12 _ _ _ ⟨by omega, by omega⟩
   all_goals exact hend n12 s11_13 y14_c0 y15_l1
  rw [List.drop_of_length_le (by omega), r12_work_list_q12]
  refine Q.condAF (Q.ltF hlt) ?_
  exact hend n12 s11_13 y14_c0 y15_l1
def r12_work_object_q58 (a1 : TDef) : List Bs → R12_work → R12_work
 | [], y60_c0 => y60_c0
 | h58 :: r58, y60_c0 => on (h58) fun x68 => on (Z54_q a1.FInputs x68) fun x69 => on (bif (!x69.2) then (on (Z63_q y60_c0 (22 : Int)) fun x72 => x72) else (y60_c0)) fun y66_c0 => r12_work_object_q58 a1 (r58) y66_c0
theorem r12_work_object_l58_qe {a1 : TDef} {a2 : TValue} {a3 : Int} {k_rec_119 : R12_work → TRef → TValue → Int → Option (TValue × R12_work)} {k_rec_71 : R12_work → TRef → TValue → Int → Option (TValue × R12_work)}  (Kb58 : (R12_work) → Option (TValue × R12_work)) (hend : ∀ (n58 : Nat) (s9_59 : Nat) (y60_c0 : R12_work), r12_work_object_j8 a1 a2 a3 k_rec_119 k_rec_71 y60_c0 = Kb58 y60_c0) : ∀ (n58 : Nat) (s9_59 : Nat) (y60_c0 : R12_work), (0 < n58 ∧ a2.FKeys.l.length < s9_59 + n58) → r12_work_object_l58 a1 a2 a3 k_rec_119 k_rec_71 n58 s9_59 y60_c0 = Kb58 (r12_work_object_q58 a1 (a2.FKeys.l.drop s9_59) y60_c0) := by
 intro n58
 induction n58 with
 | zero => intro s9_59 y60_c0 hn; exact absurd hn.1 (by omega)
 | succ n58 ih58 =>
  intro s9_59 y60_c0 hn
  rw [r12_work_object_l58]
  by_cases hlt : s9_59 < a2.FKeys.l.length
  ·obtain ⟨h58, hh58⟩ : ∃ x, a2.FKeys.l[s9_59]? = some x := ⟨_, List.getElem?_eq_getElem hlt⟩
   rw [Q.drop_of hh58, r12_work_object_q58]
   refine Q.condT (Q.ltT hlt) ?_
   refine Q.bindP hh58 fun x68 hx_x68 => ?_
   refine Q.bindP (Z54_eq _ _) fun x69 hx_x69 => ?_
   refine Q.wrapPP fun Kj65 hKj65 => ?_
   have hj65 : ∀ (y66_c0 : R12_work), r12_work_object_j65 s9_59 (r12_work_object_l58 a1 a2 a3 k_rec_119 k_rec_71 n58) y66_c0 = Kj65 y66_c0 := by
    intro y66_c0
    refine Eq.trans ?_ (hKj65 _).symm
    unfold r12_work_object_j65
    all_goals exact ih58 _ _ ⟨by omega, by omega⟩
   refine Q.condP ?_ ?_
   ·refine Q.bindP (Z63_eq _ _) fun x72 hx_x72 => ?_
    all_goals exact hj65 _
   all_goals exact hj65 _
  rw [List.drop_of_length_le (by omega), r12_work_object_q58]
  refine Q.condF (Q.ltF hlt) ?_
  exact hend n58 s9_59 y60_c0
def r12_work_object_q18 (a1 : TDef) (a2 : TValue) (a3 : Int) (k_rec_119 : R12_work → TRef → TValue → Int → Option (TValue × R12_work)) (k_rec_71 : R12_work → TRef → TValue → Int → Option (TValue × R12_work)) : List TInput → Nat → R12_work → TValue → Option ((R12_work × TValue))
 | [], s13_19, y20_c0, y21_l1 => some (y20_c0, y21_l1)
 | h18 :: r18, s13_19, y20_c0, y21_l1 => bif (decide (y20_c0.Ferr = (0 : Int))) then (on (h18) fun x30 => (Z60_q a1.FInputs ((s13_19 : Nat) : Int)).bind fun x33 => Option.bind (bif x33 then (some (y20_c0, y21_l1)) else ((Z26_q a2 x30.FName).bind fun x36 => guardO (x36.2) (Z64_q y20_c0 x36.1) false fun x45 => on (fun (y39_c0 : R12_work) (y40_l2 : TValue) => (appC 16 y21_l1.FKeys (⟨false, [x30.FName]⟩ : Sl Bs)).bind fun x42 => (appC 80 y21_l1.FItems (⟨false, [y40_l2]⟩ : Sl TValue)).bind fun x43 => some (y39_c0, (TValue.mk y21_l1.FKind y21_l1.FInt y21_l1.FText x43.nl x43.l x42))) fun kj38 => bif (x36.2 && (!x45)) then ((addC a3 (1 : Int)).bind fun x47 => (k_rec_71 y20_c0 x30.FType x36.1 x47).bind fun x48 => kj38 x48.2 x48.1) else (bif x30.FHas then ((addC a3 (1 : Int)).bind fun x51 => (k_rec_119 y20_c0 x30.FType x30.FDefault x51).bind fun x52 => kj38 x52.2 x52.1) else (on (Z38_q x30.FType) fun x54 => bif x54 then (on (Z63_q y20_c0 (22 : Int)) fun x56 => kj38 x56 TValue.zero) else (some (y20_c0, y21_l1)))))) fun z26 => r12_work_object_q18 a1 a2 a3 k_rec_119 k_rec_71 (r18) (s13_19 + 1) z26.1 z26.2) else (some (y20_c0, y21_l1))
theorem r12_work_object_l18_qe {a1 : TDef} {a2 : TValue} {a3 : Int} {k_rec_119 : R12_work → TRef → TValue → Int → Option (TValue × R12_work)} {k_rec_71 : R12_work → TRef → TValue → Int → Option (TValue × R12_work)}  (Kb18 : ((R12_work × TValue)) → Option (TValue × R12_work)) (hend : ∀ (n18 : Nat) (s13_19 : Nat) (y20_c0 : R12_work) (y21_l1 : TValue), r12_work_object_j13   y20_c0 y21_l1 = Kb18 (y20_c0, y21_l1)) : ∀ (n18 : Nat) (s13_19 : Nat) (y20_c0 : R12_work) (y21_l1 : TValue), (0 < n18 ∧ a1.FInputs.l.length < s13_19 + n18) → r12_work_object_l18 a1 a2 a3 k_rec_119 k_rec_71 n18 s13_19 y20_c0 y21_l1 = Option.bind (r12_work_object_q18 a1 a2 a3 k_rec_119 k_rec_71 (a1.FInputs.l.drop s13_19) s13_19 y20_c0 y21_l1) Kb18 := by
 intro n18
 induction n18 with
 | zero => intro s13_19 y20_c0 y21_l1 hn; exact absurd hn.1 (by omega)
 | succ n18 ih18 =>
  intro s13_19 y20_c0 y21_l1 hn
  rw [r12_work_object_l18]
  by_cases hlt : s13_19 < a1.FInputs.l.length
  ·obtain ⟨h18, hh18⟩ : ∃ x, a1.FInputs.l[s13_19]? = some x := ⟨_, List.getElem?_eq_getElem hlt⟩
   rw [Q.drop_of hh18, r12_work_object_q18]
   refine Q.condAT (Q.ltT hlt) ?_
   refine Q.condO ?_ ?_
   ·refine Q.bindPO hh18 fun x30 hx_x30 => ?_
    refine Q.bindO (Z60_eq _ _) fun x33 => ?_
    refine Q.wrapOO fun Kj26 hKj26 => ?_
    have hj26 : ∀ (y27_c0 : R12_work) (y28_l1 : TValue), r12_work_object_j26 s13_19 (r12_work_object_l18 a1 a2 a3 k_rec_119 k_rec_71 n18) y27_c0 y28_l1 = Kj26 (y27_c0, y28_l1) := by
     intro y27_c0 y28_l1
     refine Eq.trans ?_ (hKj26 _).symm
     try dsimp only
     unfold r12_work_object_j26
     all_goals exact ih18 _ _ _ ⟨by omega, by omega⟩
    refine Q.condO ?_ ?_
    ·all_goals exact hj26 _ _
    refine Q.bindO (Z26_eq _ _) fun x36 => ?_
    refine Q.guardOO (Z64_eq _ _) fun x45 => ?_
    refine Q.mixO fun kj38 hkj38 => ?_
    have hj38 : ∀ (y39_c0 : R12_work) (y40_l2 : TValue), r12_work_object_j38 s13_19 y21_l1 x30 (r12_work_object_l18 a1 a2 a3 k_rec_119 k_rec_71 n18) y39_c0 y40_l2 = Option.bind (kj38 y39_c0 y40_l2) Kj26 := by
     intro y39_c0 y40_l2
     unfold r12_work_object_j38
     rw [hkj38]
     try dsimp only
     refine Q.bindO rfl fun x42 => ?_
     refine Q.bindO rfl fun x43 => ?_
     all_goals exact hj26 _ _
    refine Q.condO ?_ ?_
    ·refine Q.bindO rfl fun x47 => ?_
     refine Q.bindO rfl fun x48 => ?_
     all_goals exact hj38 _ _
    refine Q.condO ?_ ?_
    ·refine Q.bindO rfl fun x51 => ?_
     refine Q.bindO rfl fun x52 => ?_
     all_goals exact hj38 _ _
    refine Q.bindPO (Z38_eq _) fun x54 hx_x54 => ?_
    refine Q.condO ?_ ?_
    ·refine Q.bindPO (Z63_eq _ _) fun x56 hx_x56 => ?_
     all_goals exact hj38 _ _
    all_goals exact hj26 _ _
   all_goals exact hend n18 s13_19 y20_c0 y21_l1
  rw [List.drop_of_length_le (by omega), r12_work_object_q18]
  refine Q.condAF (Q.ltF hlt) ?_
  exact hend n18 s13_19 y20_c0 y21_l1
mutual
def r12_work_coerce_qn : Nat → R12_work → TRef → TValue → Int → Option (TValue × R12_work)
 | 0, _, _, _, _ => none
 | n + 1, a0, a1, a2, a3 => on (Z55_q a0.Fd a1.FName) fun x4 => bif (!x4) then (on (Z63_q a0 (10 : Int)) fun x7 => some ((TValue.mk (0 : Int) (0 : Int) ([] : Bs) true ([]) (Sl.nil : Sl Bs)), x7)) else (on (fun (y10_c0 : R12_work) (y11_l0 : TValue) => (Z65_q y10_c0 a3).bind fun x14 => bif (!decide (x14.Ferr = (0 : Int))) then (some ((TValue.mk (0 : Int) (0 : Int) ([] : Bs) true ([]) (Sl.nil : Sl Bs)), x14)) else (bif (decide (y11_l0.FKind = (0 : Int))) then (on (Z38_q a1) fun x26 => on (bif x26 then (on (Z63_q x14 (23 : Int)) fun x28 => x28) else (x14)) fun y23_c0 => some ((TValue.mk (0 : Int) (0 : Int) ([] : Bs) true ([]) (Sl.nil : Sl Bs)), y23_c0)) else ((Z36_q a1).bind fun x31 => bif x31.2 then (((r12_work_list_qn n) x14 x31.1 y11_l0 a3).bind fun x35 => some (x35.1, x35.2)) else (on (Z57_q a1.FName) fun x38 => bif x38 then ((Z68_q x14 a1.FName y11_l0).bind fun x41 => some (x41.1, x41.2)) else (on (Z53_q x14.Fd a1.FName) fun x43 => bif (decide (x43.1.FKind = (4 : Int))) then (on (Z62_q x14 x43.1 y11_l0) fun x48 => some (x48.1, x48.2)) else (((r12_work_object_qn n) x14 x43.1 y11_l0 a3).bind fun x50 => some (x50.1, x50.2))))))) fun kj9 => bif (a0.Flit && (decide (a2.FKind = (7 : Int)))) then ((Z26_q a0.Fvars a2.FText).bind fun x54 => bif (!decide (x54.1.FKind = (0 : Int))) then ((Z69_q a0 x54.1 a3).bind fun x59 => some (x59.1, x59.2)) else (kj9 a0 (TValue.mk (0 : Int) (0 : Int) ([] : Bs) true ([]) (Sl.nil : Sl Bs)))) else (kj9 a0 a2))
def r12_work_list_qn : Nat → R12_work → TRef → TValue → Int → Option (TValue × R12_work)
 | 0, _, _, _, _ => none
 | n + 1, a0, a1, a2, a3 => on (bif (decide (a2.FKind = (5 : Int))) then (a2.FItems) else ((⟨false, [a2]⟩ : Sl TValue))) fun s9_4 => Option.bind (r12_work_list_q12 a1 a3 (r12_work_coerce_qn n) s9_4.l a0 (TValue.mk (5 : Int) (0 : Int) ([] : Bs) true ([]) (Sl.nil : Sl Bs))) fun z12 => on ((z12.1, z12.2)) fun z7 => some (z7.2, z7.1)
def r12_work_object_qn : Nat → R12_work → TDef → TValue → Int → Option (TValue × R12_work)
 | 0, _, _, _, _ => none
 | n + 1, a0, a1, a2, a3 => bif (!decide (a2.FKind = (6 : Int))) then (on (Z63_q a0 (23 : Int)) fun x6 => some ((TValue.mk (0 : Int) (0 : Int) ([] : Bs) true ([]) (Sl.nil : Sl Bs)), x6)) else (on (r12_work_object_q58 a1 a2.FKeys.l a0) fun y60_c0 => on (y60_c0) fun y9_c0 => Option.bind (r12_work_object_q18 a1 a2 a3 (Z66_qn n) (r12_work_coerce_qn n) a1.FInputs.l 0 y9_c0 (TValue.mk (6 : Int) (0 : Int) ([] : Bs) true ([]) (Sl.nil : Sl Bs))) fun z18 => on ((z18.1, z18.2)) fun z13 => some (z13.2, z13.1))
def Z66_qn : Nat → R12_work → TRef → TValue → Int → Option (TValue × R12_work)
 | 0, _, _, _, _ => none
 | n + 1, a0, a1, a2, a3 => ((r12_work_coerce_qn n) (R12_work.mk a0.Fd (TValue.mk (0 : Int) (0 : Int) ([] : Bs) true ([]) (Sl.nil : Sl Bs)) true a0.Fcount a0.Ferr) a1 a2 a3).bind fun x5 => some (x5.1, (R12_work.mk x5.2.Fd a0.Fvars a0.Flit x5.2.Fcount x5.2.Ferr))
end
theorem r12_work_coerce_qall : ∀ n : Nat, r12_work_coerce_n n = r12_work_coerce_qn n ∧ r12_work_list_n n = r12_work_list_qn n ∧ r12_work_object_n n = r12_work_object_qn n ∧ Z66_n n = Z66_qn n := by
 intro n
 induction n with
 | zero => exact ⟨(by funext a0 a1 a2 a3; first | rfl | (rw [r12_work_coerce_n, r12_work_coerce_qn])), (by funext a0 a1 a2 a3; first | rfl | (rw [r12_work_list_n, r12_work_list_qn])), (by funext a0 a1 a2 a3; first | rfl | (rw [r12_work_object_n, r12_work_object_qn])), (by funext a0 a1 a2 a3; first | rfl | (rw [Z66_n, Z66_qn]))⟩
 | succ n ih =>
  refine ⟨?_, ?_, ?_, ?_⟩
  ·funext a0 a1 a2 a3
   refine Eq.trans ?_ (Q.some_bind _)
   rw [r12_work_coerce_n, r12_work_coerce_qn]
   try rw [ih.1]
   try rw [ih.2.1]
   try rw [ih.2.2.1]
   try rw [ih.2.2.2]
   refine Q.bindPO (Z55_eq _ _) fun x4 hx_x4 => ?_
   refine Q.condO ?_ ?_
   ·refine Q.bindPO (Z63_eq _ _) fun x7 hx_x7 => ?_
    all_goals rfl
   refine Q.mixO fun kj9 hkj9 => ?_
   have hj9 : ∀ (y10_c0 : R12_work) (y11_l0 : TValue) (y12_l1 : TValue), r12_work_coerce_j9 a1 a3 (r12_work_list_qn n) (r12_work_object_qn n) y10_c0 y11_l0 y12_l1 = Option.bind (kj9 y10_c0 y11_l0) some := by
    intro y10_c0 y11_l0 y12_l1
    unfold r12_work_coerce_j9
    rw [hkj9]
    try dsimp only
    refine Q.bindO (Z65_eq _ _) fun x14 => ?_
    refine Q.condO ?_ ?_
    ·all_goals rfl
    refine Q.condO ?_ ?_
    ·refine Q.bindPO (Z38_eq _) fun x26 hx_x26 => ?_
     refine Q.wrapPO fun Kj22 hKj22 => ?_
     have hj22 : ∀ (y23_c0 : R12_work), r12_work_coerce_j22  y23_c0 = Kj22 y23_c0 := by
      intro y23_c0
      refine Eq.trans ?_ (hKj22 _).symm
      unfold r12_work_coerce_j22
      all_goals rfl
     refine Q.condP ?_ ?_
     ·refine Q.bindP (Z63_eq _ _) fun x28 hx_x28 => ?_
      all_goals exact hj22 _
     all_goals exact hj22 _
    refine Q.bindO (Z36_eq _) fun x31 => ?_
    refine Q.condO ?_ ?_
    ·refine Q.bindO rfl fun x35 => ?_
     all_goals rfl
    refine Q.bindPO (Z57_eq _) fun x38 hx_x38 => ?_
    refine Q.condO ?_ ?_
    ·refine Q.bindO (Z68_eq _ _ _) fun x41 => ?_
     all_goals rfl
    refine Q.bindPO (Z53_eq _ _) fun x43 hx_x43 => ?_
    refine Q.condO ?_ ?_
    ·refine Q.bindPO (Z62_eq _ _ _) fun x48 hx_x48 => ?_
     all_goals rfl
    refine Q.bindO rfl fun x50 => ?_
    all_goals rfl
   refine Q.condO ?_ ?_
   ·refine Q.bindO (Z26_eq _ _) fun x54 => ?_
    refine Q.condO ?_ ?_
    ·refine Q.bindO (Z69_eq _ _ _) fun x59 => ?_
     all_goals rfl
    all_goals exact hj9 _ _ _
   all_goals exact hj9 _ _ _
  ·funext a0 a1 a2 a3
   refine Eq.trans ?_ (Q.some_bind _)
   rw [r12_work_list_n, r12_work_list_qn]
   try rw [ih.1]
   try rw [ih.2.1]
   try rw [ih.2.2.1]
   try rw [ih.2.2.2]
   refine Q.wrapPO fun Kj3 hKj3 => ?_
   have hj3 : ∀ (s9_4 : (Sl TValue)), r12_work_list_j3 a0 a1 a3 (r12_work_coerce_qn n) s9_4 = Kj3 s9_4 := by
    intro s9_4
    refine Eq.trans ?_ (hKj3 _).symm
    unfold r12_work_list_j3
    refine Q.wrapOO fun Kb12 hKb12 => ?_
    refine r12_work_list_l12_qe  Kb12 ?_ _ _ _ _ ⟨Nat.succ_pos _, by omega⟩
    intro n12 s11_13 y14_c0 y15_l1
    refine Eq.trans ?_ (hKb12 _).symm
    try dsimp only
    refine Q.wrapPO fun Kj7 hKj7 => ?_
    have hj7 : ∀ (y8_c0 : R12_work) (y9_l1 : TValue), r12_work_list_j7  y8_c0 y9_l1 = Kj7 (y8_c0, y9_l1) := by
     intro y8_c0 y9_l1
     refine Eq.trans ?_ (hKj7 _).symm
     try dsimp only
     unfold r12_work_list_j7
     all_goals rfl
    all_goals exact hj7 _ _
   refine Q.condP ?_ ?_
   ·all_goals exact hj3 _
   all_goals exact hj3 _
  ·funext a0 a1 a2 a3
   refine Eq.trans ?_ (Q.some_bind _)
   rw [r12_work_object_n, r12_work_object_qn]
   try rw [ih.1]
   try rw [ih.2.1]
   try rw [ih.2.2.1]
   try rw [ih.2.2.2]
   refine Q.condO ?_ ?_
   ·refine Q.bindPO (Z63_eq _ _) fun x6 hx_x6 => ?_
    all_goals rfl
   refine Q.wrapPO fun Kb58 hKb58 => ?_
   refine r12_work_object_l58_qe  Kb58 ?_ _ _ _ ⟨Nat.succ_pos _, by omega⟩
   intro n58 s9_59 y60_c0
   refine Eq.trans ?_ (hKb58 _).symm
   refine Q.wrapPO fun Kj8 hKj8 => ?_
   have hj8 : ∀ (y9_c0 : R12_work), r12_work_object_j8 a1 a2 a3 (Z66_qn n) (r12_work_coerce_qn n) y9_c0 = Kj8 y9_c0 := by
    intro y9_c0
    refine Eq.trans ?_ (hKj8 _).symm
    unfold r12_work_object_j8
    refine Q.wrapOO fun Kb18 hKb18 => ?_
    refine r12_work_object_l18_qe  Kb18 ?_ _ _ _ _ ⟨Nat.succ_pos _, by omega⟩
    intro n18 s13_19 y20_c0 y21_l1
    refine Eq.trans ?_ (hKb18 _).symm
    try dsimp only
    refine Q.wrapPO fun Kj13 hKj13 => ?_
    have hj13 : ∀ (y14_c0 : R12_work) (y15_l1 : TValue), r12_work_object_j13  y14_c0 y15_l1 = Kj13 (y14_c0, y15_l1) := by
     intro y14_c0 y15_l1
     refine Eq.trans ?_ (hKj13 _).symm
     try dsimp only
     unfold r12_work_object_j13
     all_goals rfl
    all_goals exact hj13 _ _
   all_goals exact hj8 _
  funext a0 a1 a2 a3
  refine Eq.trans ?_ (Q.some_bind _)
  rw [Z66_n, Z66_qn]
  try rw [ih.1]
  try rw [ih.2.1]
  try rw [ih.2.2.1]
  try rw [ih.2.2.2]
  refine Q.bindO rfl fun x5 => ?_
  all_goals rfl
def r12_work_coerce_q (a0 : R12_work) (a1 : TRef) (a2 : TValue) (a3 : Int) : Option (TValue × R12_work) := r12_work_coerce_qn F0 a0 a1 a2 a3
theorem r12_work_coerce_eq (a0 : R12_work) (a1 : TRef) (a2 : TValue) (a3 : Int) : r12_work_coerce a0 a1 a2 a3 = r12_work_coerce_q a0 a1 a2 a3 := by
 unfold r12_work_coerce r12_work_coerce_q; rw [(r12_work_coerce_qall F0).1]
def Z67_q (a0 : R12_work) (a1 : TRef) (a2 : TValue) : Option (TValue × Int × R12_work) := (r12_work_coerce_q a0 a1 a2 (1 : Int)).bind fun x3 => bif (!decide (x3.2.Ferr = (0 : Int))) then (some ((TValue.mk (0 : Int) (0 : Int) ([] : Bs) true ([]) (Sl.nil : Sl Bs)), x3.2.Ferr, x3.2)) else (some (x3.1, (0 : Int), x3.2))
theorem Z67_eq (a0 : R12_work) (a1 : TRef) (a2 : TValue) : Z67 a0 a1 a2 = Z67_q a0 a1 a2 := by
 unfold Z67 Z67_q
 refine Eq.trans ?_ (Q.some_bind _)
 refine Q.bindO (r12_work_coerce_eq _ _ _ _) fun x3 => ?_
 refine Q.condO ?_ ?_
 ·all_goals rfl
 all_goals rfl
def Z59_q (a0 : TDoc) (a1 : TRef) (a2 : TValue) (a3 : TValue) : Option (TValue × Int) := on (Z55_q a0 a1.FName) fun x6 => guardO (x6) (Z64_q (R12_work.mk a0 a3 true (0 : Int) (0 : Int)) a2) false fun x7 => bif (x6 && x7) then (some ((TValue.mk (0 : Int) (0 : Int) ([] : Bs) true ([]) (Sl.nil : Sl Bs)), (8 : Int))) else ((Z67_q (R12_work.mk a0 a3 true (0 : Int) (0 : Int)) a1 a2).bind fun x11 => some (x11.1, x11.2.1))
theorem Z59_eq (a0 : TDoc) (a1 : TRef) (a2 : TValue) (a3 : TValue) : Z59 a0 a1 a2 a3 = Z59_q a0 a1 a2 a3 := by
 unfold Z59 Z59_q
 refine Eq.trans ?_ (Q.some_bind _)
 refine Q.bindPO (Z55_eq _ _) fun x6 hx_x6 => ?_
 refine Q.guardOO (Z64_eq _ _) fun x7 => ?_
 refine Q.condO ?_ ?_
 ·all_goals rfl
 refine Q.bindO (Z67_eq _ _ _) fun x11 => ?_
 all_goals rfl
def Z61_q9 (a1 : Bs) : List TArg → Int → TValue → Option ((Int × TValue))
 | [], s7_10, y12_l1 => some (s7_10, y12_l1)
 | h9 :: r9, s7_10, y12_l1 => on (h9) fun x21 => Option.bind (bif ((x21.FName == a1)) then (on (bif (decide (s7_10 = (0 : Int))) then (on (h9) fun x28 => x28.FValue) else (y12_l1)) fun y24_l1 => (addC s7_10 (1 : Int)).bind fun x25 => some (x25, y24_l1)) else (some (s7_10, y12_l1))) fun z17 => Z61_q9 a1 (r9) z17.1 z17.2
theorem Z61_l9_qe {a0 : (Sl TArg)} {a1 : Bs}  (Kb9 : ((Int × TValue)) → Option (TValue × Int)) (hend : ∀ (n9 : Nat) (s7_10 : Int) (s8_11 : Nat) (y12_l1 : TValue), Z61_j4   s7_10 y12_l1 = Kb9 (s7_10, y12_l1)) : ∀ (n9 : Nat) (s7_10 : Int) (s8_11 : Nat) (y12_l1 : TValue), (0 < n9 ∧ a0.l.length < s8_11 + n9) → Z61_l9 a0 a1 n9 s7_10 s8_11 y12_l1 = Option.bind (Z61_q9 a1 (a0.l.drop s8_11) s7_10 y12_l1) Kb9 := by
 intro n9
 induction n9 with
 | zero => intro s7_10 s8_11 y12_l1 hn; exact absurd hn.1 (by omega)
 | succ n9 ih9 =>
  intro s7_10 s8_11 y12_l1 hn
  rw [Z61_l9]
  by_cases hlt : s8_11 < a0.l.length
  ·obtain ⟨h9, hh9⟩ : ∃ x, a0.l[s8_11]? = some x := ⟨_, List.getElem?_eq_getElem hlt⟩
   rw [Q.drop_of hh9, Z61_q9]
   refine Q.condT (Q.ltT hlt) ?_
   refine Q.bindPO hh9 fun x21 hx_x21 => ?_
   refine Q.wrapOO fun Kj17 hKj17 => ?_
   have hj17 : ∀ (s7_18 : Int) (y19_l1 : TValue), Z61_j17 s8_11 (Z61_l9 a0 a1 n9) s7_18 y19_l1 = Kj17 (s7_18, y19_l1) := by
    intro s7_18 y19_l1
    refine Eq.trans ?_ (hKj17 _).symm
    try dsimp only
    unfold Z61_j17
    all_goals exact ih9 _ _ _ ⟨by omega, by omega⟩
   refine Q.condO ?_ ?_
   ·refine Q.wrapPO fun Kj23 hKj23 => ?_
    have hj23 : ∀ (y24_l1 : TValue), Z61_j23 s7_10 s8_11 (Z61_l9 a0 a1 n9) y24_l1 = Kj23 y24_l1 := by
     intro y24_l1
     refine Eq.trans ?_ (hKj23 _).symm
     unfold Z61_j23
     refine Q.bindO rfl fun x25 => ?_
     all_goals exact hj17 _ _
    refine Q.condP ?_ ?_
    ·refine Q.bindP hh9 fun x28 hx_x28 => ?_
     all_goals exact hj23 _
    all_goals exact hj23 _
   all_goals exact hj17 _ _
  rw [List.drop_of_length_le (by omega), Z61_q9]
  refine Q.condF (Q.ltF hlt) ?_
  exact hend n9 s7_10 s8_11 y12_l1
def Z61_q (a0 : (Sl TArg)) (a1 : Bs) : Option (TValue × Int) := Option.bind (Z61_q9 a1 a0.l (0 : Int) TValue.zero) fun z9 => on ((z9.1, z9.2)) fun z4 => some (z4.2, z4.1)
theorem Z61_eq (a0 : (Sl TArg)) (a1 : Bs) : Z61 a0 a1 = Z61_q a0 a1 := by
 unfold Z61 Z61_q
 refine Eq.trans ?_ (Q.some_bind _)
 refine Q.wrapOO fun Kb9 hKb9 => ?_
 refine Z61_l9_qe  Kb9 ?_ _ _ _ _ ⟨Nat.succ_pos _, by omega⟩
 intro n9 s7_10 s8_11 y12_l1
 refine Eq.trans ?_ (hKb9 _).symm
 try dsimp only
 refine Q.wrapPO fun Kj4 hKj4 => ?_
 have hj4 : ∀ (s7_5 : Int) (y6_l1 : TValue), Z61_j4  s7_5 y6_l1 = Kj4 (s7_5, y6_l1) := by
  intro s7_5 y6_l1
  refine Eq.trans ?_ (hKj4 _).symm
  try dsimp only
  unfold Z61_j4
  all_goals rfl
 all_goals exact hj4 _ _
def Z58_q48 (a1 : (Sl TInput)) (a2 : (Sl TArg)) : List TArg → Option (Unit ⊕ (((Sl TArg) × Int)))
 | [] => some (Sum.inl ())
 | h48 :: r48 => on (h48) fun x56 => on (Z54_q a1 x56.FName) fun x57 => on (h48) fun x59 => (Z61_q a2 x59.FName).bind fun x60 => bif ((!x57.2) || (decide ((1 : Int) < x60.2))) then (some (Sum.inr ((Sl.nil : Sl TArg), (22 : Int)))) else (Z58_q48 a1 a2 (r48) )
theorem Z58_l48_qe {a0 : TDoc} {a1 : (Sl TInput)} {a2 : (Sl TArg)} {a3 : TValue}  (Kb48 : (Unit ⊕ (((Sl TArg) × Int))) → Option ((Sl TArg) × Int)) (hend : ∀ (n48 : Nat) (s10_49 : Nat), Z58_j2 a0 a1 a2 a3   = Kb48 (Sum.inl ())) (hret : ∀ e : ((Sl TArg) × Int), some e = Kb48 (Sum.inr e)) : ∀ (n48 : Nat) (s10_49 : Nat), (0 < n48 ∧ a2.l.length < s10_49 + n48) → Z58_l48 a0 a1 a2 a3 n48 s10_49 = Option.bind (Z58_q48 a1 a2 (a2.l.drop s10_49) ) Kb48 := by
 intro n48
 induction n48 with
 | zero => intro s10_49 hn; exact absurd hn.1 (by omega)
 | succ n48 ih48 =>
  intro s10_49 hn
  rw [Z58_l48]
  by_cases hlt : s10_49 < a2.l.length
  ·obtain ⟨h48, hh48⟩ : ∃ x, a2.l[s10_49]? = some x := ⟨_, List.getElem?_eq_getElem hlt⟩
   rw [Q.drop_of hh48, Z58_q48]
   refine Q.condT (Q.ltT hlt) ?_
   refine Q.bindPO hh48 fun x56 hx_x56 => ?_
   refine Q.bindPO (Z54_eq _ _) fun x57 hx_x57 => ?_
   refine Q.bindPO hh48 fun x59 hx_x59 => ?_
   refine Q.bindO (Z61_eq _ _) fun x60 => ?_
   refine Q.condO ?_ ?_
   ·all_goals exact hret _
   all_goals exact ih48 _ ⟨by omega, by omega⟩
  rw [List.drop_of_length_le (by omega), Z58_q48]
  refine Q.condF (Q.ltF hlt) ?_
  exact hend n48 s10_49
def Z58_q10 (a0 : TDoc) (a1 : (Sl TInput)) (a2 : (Sl TArg)) (a3 : TValue) : List TInput → Nat → (Sl TArg) → Option (((Sl TArg)) ⊕ (((Sl TArg) × Int)))
 | [], s17_12, s15_11 => some (Sum.inl s15_11)
 | h10 :: r10, s17_12, s15_11 => on (h10) fun x20 => (Z60_q a1 ((s17_12 : Nat) : Int)).bind fun x23 => on (fun (s15_18 : (Sl TArg)) => Z58_q10 a0 a1 a2 a3 (r10) (s17_12 + 1) s15_18) fun kj17 => bif x23 then (kj17 s15_11) else ((Z61_q a2 x20.FName).bind fun x26 => guardO ((decide ((0 : Int) < x26.2))) (Z64_q (R12_work.mk TDoc.zero a3 true (0 : Int) (0 : Int)) x26.1) false fun x38 => on (fun (s21_30 : Int) (y31_l0 : TValue) => bif (!decide (s21_30 = (0 : Int))) then (some (Sum.inr ((Sl.nil : Sl TArg), s21_30))) else ((appC 96 s15_11 (⟨false, [(TArg.mk x20.FName y31_l0)]⟩ : Sl TArg)).bind fun x36 => kj17 x36)) fun kj29 => bif ((decide ((0 : Int) < x26.2)) && (!x38)) then ((Z59_q a0 x20.FType x26.1 a3).bind fun x40 => kj29 x40.2 x40.1) else (bif x20.FHas then ((Z59_q a0 x20.FType x20.FDefault (TValue.mk (0 : Int) (0 : Int) ([] : Bs) true ([]) (Sl.nil : Sl Bs))).bind fun x43 => kj29 x43.2 x43.1) else (on (Z38_q x20.FType) fun x45 => bif (!x45) then (kj17 s15_11) else (kj29 (22 : Int) TValue.zero))))
theorem Z58_l10_qe {a0 : TDoc} {a1 : (Sl TInput)} {a2 : (Sl TArg)} {a3 : TValue}  (Kb10 : (((Sl TArg)) ⊕ (((Sl TArg) × Int))) → Option ((Sl TArg) × Int)) (hend : ∀ (n10 : Nat) (s15_11 : (Sl TArg)) (s17_12 : Nat), Z58_j6   s15_11 = Kb10 (Sum.inl s15_11)) (hret : ∀ e : ((Sl TArg) × Int), some e = Kb10 (Sum.inr e)) : ∀ (n10 : Nat) (s15_11 : (Sl TArg)) (s17_12 : Nat), (0 < n10 ∧ a1.l.length < s17_12 + n10) → Z58_l10 a0 a1 a2 a3 n10 s15_11 s17_12 = Option.bind (Z58_q10 a0 a1 a2 a3 (a1.l.drop s17_12) s17_12 s15_11) Kb10 := by
 intro n10
 induction n10 with
 | zero => intro s15_11 s17_12 hn; exact absurd hn.1 (by omega)
 | succ n10 ih10 =>
  intro s15_11 s17_12 hn
  rw [Z58_l10]
  by_cases hlt : s17_12 < a1.l.length
  ·obtain ⟨h10, hh10⟩ : ∃ x, a1.l[s17_12]? = some x := ⟨_, List.getElem?_eq_getElem hlt⟩
   rw [Q.drop_of hh10, Z58_q10]
   refine Q.condT (Q.ltT hlt) ?_
   refine Q.bindPO hh10 fun x20 hx_x20 => ?_
   refine Q.bindO (Z60_eq _ _) fun x23 => ?_
   refine Q.mixO fun kj17 hkj17 => ?_
   have hj17 : ∀ (s15_18 : (Sl TArg)), Z58_j17 s17_12 (Z58_l10 a0 a1 a2 a3 n10) s15_18 = Option.bind (kj17 s15_18) Kb10 := by
    intro s15_18
    unfold Z58_j17
    rw [hkj17]
    try dsimp only
    all_goals exact ih10 _ _ ⟨by omega, by omega⟩
   refine Q.condO ?_ ?_
   ·all_goals exact hj17 _
   refine Q.bindO (Z61_eq _ _) fun x26 => ?_
   refine Q.guardOO (Z64_eq _ _) fun x38 => ?_
   refine Q.mixO fun kj29 hkj29 => ?_
   have hj29 : ∀ (s21_30 : Int) (y31_l0 : TValue), Z58_j29 s15_11 s17_12 x20 (Z58_l10 a0 a1 a2 a3 n10) s21_30 y31_l0 = Option.bind (kj29 s21_30 y31_l0) Kb10 := by
    intro s21_30 y31_l0
    unfold Z58_j29
    rw [hkj29]
    try dsimp only
    refine Q.condO ?_ ?_
    ·all_goals exact hret _
    refine Q.bindO rfl fun x36 => ?_
    all_goals exact hj17 _
   refine Q.condO ?_ ?_
   ·refine Q.bindO (Z59_eq _ _ _ _) fun x40 => ?_
    all_goals exact hj29 _ _
   refine Q.condO ?_ ?_
   ·refine Q.bindO (Z59_eq _ _ _ _) fun x43 => ?_
    all_goals exact hj29 _ _
   refine Q.bindPO (Z38_eq _) fun x45 hx_x45 => ?_
   refine Q.condO ?_ ?_
   ·all_goals exact hj17 _
   all_goals exact hj29 _ _
  rw [List.drop_of_length_le (by omega), Z58_q10]
  refine Q.condF (Q.ltF hlt) ?_
  exact hend n10 s15_11 s17_12
def Z58_q (a0 : TDoc) (a1 : (Sl TInput)) (a2 : (Sl TArg)) (a3 : TValue) : Option ((Sl TArg) × Int) := Option.bind (Z58_q48 a1 a2 a2.l ) fun o48 => match o48 with | Sum.inl _ => (on (()) fun _ => Option.bind (Z58_q10 a0 a1 a2 a3 a1.l 0 (Sl.nil : Sl TArg)) fun o10 => match o10 with | Sum.inl s15_11 => (on (s15_11) fun s15_7 => some (s15_7, (0 : Int))) | Sum.inr e10 => (some e10)) | Sum.inr e48 => (some e48)
theorem Z58_eq (a0 : TDoc) (a1 : (Sl TInput)) (a2 : (Sl TArg)) (a3 : TValue) : Z58 a0 a1 a2 a3 = Z58_q a0 a1 a2 a3 := by
 unfold Z58 Z58_q
 refine Eq.trans ?_ (Q.some_bind _)
 refine Q.wrapOO fun Kb48 hKb48 => ?_
 refine Z58_l48_qe  Kb48 ?_ ?_ _ _ ⟨Nat.succ_pos _, by omega⟩
 ·intro n48 s10_49
  refine Eq.trans ?_ (hKb48 _).symm
  try dsimp only
  refine Q.wrapPO fun Kj2 hKj2 => ?_
  have hj2 : Z58_j2 a0 a1 a2 a3  = Kj2 () := by
   refine Eq.trans ?_ (hKj2 _).symm
   unfold Z58_j2
   refine Q.wrapOO fun Kb10 hKb10 => ?_
   refine Z58_l10_qe  Kb10 ?_ ?_ _ _ _ ⟨Nat.succ_pos _, by omega⟩
   ·intro n10 s15_11 s17_12
    refine Eq.trans ?_ (hKb10 _).symm
    try dsimp only
    refine Q.wrapPO fun Kj6 hKj6 => ?_
    have hj6 : ∀ (s15_7 : (Sl TArg)), Z58_j6  s15_7 = Kj6 s15_7 := by
     intro s15_7
     refine Eq.trans ?_ (hKj6 _).symm
     unfold Z58_j6
     all_goals rfl
    all_goals exact hj6 _
   intro e10
   refine Eq.trans ?_ (hKb10 _).symm
   try dsimp only
   all_goals rfl
  all_goals exact hj2
 intro e48
 refine Eq.trans ?_ (hKb48 _).symm
 try dsimp only
 all_goals rfl
end Go.Proofs

namespace Go.Proofs
open Go Go.Ab
def nnW (w : List Int) : Bool := w.head? == some 1
def liW (w : List Int) : Bool := w.head? == some 2
def barS (s : Sl Int) : Sl Int := bif nnW s.l then ⟨s.nl, s.l.drop 1⟩ else s
def bar (t : TRef) : TRef := ⟨t.FName, barS t.FWraps⟩
def innerT (t : TRef) : TRef := ⟨t.FName, ⟨(barS t.FWraps).nl, (barS t.FWraps).l.drop 1⟩⟩
theorem clone_eq {s : Sl Int} (h : SOk s) : Z76_q s = some s := by
 unfold Z76_q
 obtain ⟨nl, l⟩ := s
 cases nl with
 | true => have := h.1 rfl; simp only at this; subst this; rfl
 | false =>
  simp only [cond_false]
  rw [appC_ok (by omega) (by have := h.2; simp at this ⊢; omega)]
  simp
theorem isNonNull_eq (t : TRef) : Z89_q t = nnW t.FWraps.l := by
 unfold Z89_q nnW on
 cases t.FWraps.l with
 | nil => rfl
 | cons a r => simp; by_cases h : a = 1 <;> simp [h]
theorem head_one {w : List Int} (h : nnW w = true) : 1 ≤ w.length := by cases w <;> simp [nnW] at h ⊢
theorem sok_drop {α : Type} {s : Sl α} (n : Nat) (h : SOk s) : SOk ⟨s.nl, s.l.drop n⟩ := ⟨fun e => by simp [h.1 e], by have := h.2; simp; omega⟩
theorem barS_ok {s : Sl Int} (h : SOk s) : SOk (barS s) := by
 unfold barS
 cases nnW s.l with
 | true => exact sok_drop 1 h
 | false => exact h
theorem innerT_ok {t : TRef} (h : SOk t.FWraps) : SOk (innerT t).FWraps := sok_drop 1 (barS_ok h)
theorem nullable_eq {t : TRef} (h : SOk t.FWraps) : Z90_q t = some (bar t) := by
 unfold Z90_q bar barS on
 simp only [isNonNull_eq]
 cases hn : nnW t.FWraps.l with
 | true =>
  simp only [cond_true]
  rw [partC_tail (head_one hn)]
  simp only [Option.bind_some]
  rw [clone_eq (sok_drop 1 h)]; rfl
 | false =>
  simp only [cond_false, Option.bind_some]
  rw [clone_eq h]; rfl
theorem isList_eq {t : TRef} (h : SOk t.FWraps) : Z88_q t = some (liW (barS t.FWraps).l) := by
 unfold Z88_q
 rw [nullable_eq h]
 simp only [Option.bind_some, on, bar, liW]
 cases (barS t.FWraps).l with
 | nil => rfl
 | cons a r => simp; by_cases h : a = 2 <;> simp [h]
theorem list_one {w : List Int} (h : liW w = true) : 1 ≤ w.length := by cases w <;> simp [liW] at h ⊢
theorem inner_eq {t : TRef} (h : SOk t.FWraps) : Z87_q t = some (bif liW (barS t.FWraps).l then (innerT t, true) else (⟨[], Sl.nil⟩, false)) := by
 unfold Z87_q
 rw [isList_eq h]
 simp only [Option.bind_some]
 cases hl : liW (barS t.FWraps).l with
 | false => rfl
 | true =>
  simp only [Bool.not_true, cond_false, cond_true]
  rw [nullable_eq h]
  simp only [Option.bind_some, bar]
  rw [partC_tail (list_one hl)]
  rfl
theorem findAux (l : List TDef) (s : Bs) : Z70_q7 s l = (match l.find? (fun t => t.FName == s) with | some t => Sum.inr (t, true) | none => Sum.inl ()) := by
 induction l with
 | nil => rfl
 | cons a r ih =>
  rw [Z70_q7, List.find?_cons]
  simp only [on, ih]
  cases a.FName == s <;> rfl
def fnd (l : List TDef) (s : Bs) : TDef × Bool := match l.find? (fun t => t.FName == s) with | some t => (t, true) | none => (TDef.zero, false)
theorem find_eq (d : TDoc) (s : Bs) : Z70_q d s = fnd d.FDefs.l s := by
 unfold Z70_q fnd on
 rw [findAux]
 cases d.FDefs.l.find? (fun t => t.FName == s) <;> rfl
theorem fnd_mem (l : List TDef) (s : Bs) : (fnd l s).1 = TDef.zero ∨ (fnd l s).1 ∈ l := by
 unfold fnd
 cases h : l.find? (fun t => t.FName == s) with
 | none => exact .inl rfl
 | some t => exact .inr (List.mem_of_find?_eq_some h)
theorem inputAux (l : List TInput) (s : Bs) : Z71_q7 s l = (match l.find? (fun t => t.FName == s) with | some t => Sum.inr (t, true) | none => Sum.inl ()) := by
 induction l with
 | nil => rfl
 | cons a r ih =>
  rw [Z71_q7, List.find?_cons]
  simp only [on, ih]
  cases a.FName == s <;> rfl
def fndI (l : List TInput) (s : Bs) : TInput × Bool := match l.find? (fun t => t.FName == s) with | some t => (t, true) | none => (TInput.zero, false)
theorem inputOf_eq (t : Sl TInput) (s : Bs) : Z71_q t s = fndI t.l s := by
 unfold Z71_q fndI on
 rw [inputAux]
 cases t.l.find? (fun t => t.FName == s) <;> rfl
theorem r05_isNonNull_eq (t : TRef) : Z38_q t = nnW t.FWraps.l := isNonNull_eq t
def RefEq (a b : TRef) : Prop := a.FName = b.FName ∧ a.FWraps.l = b.FWraps.l
theorem Z41_is {t : TRef} (h : t.FWraps.l.length ≤ 1048576) (h1 : 1 ≤ t.FWraps.l.length) : Z41_q t = some ⟨t.FName, ⟨false, t.FWraps.l.drop 1⟩⟩ := by
 unfold Z41_q
 rw [partC_tail h1]
 simp only [Option.bind_some]
 rw [appC_ok (by omega) (by simp; omega)]
 rfl
theorem r05_nullable_eq {t : TRef} (h : t.FWraps.l.length ≤ 1048576) : Z39_q t = some ⟨t.FName, ⟨false, (barS t.FWraps).l⟩⟩ := by
 unfold Z39_q
 simp only [on, r05_isNonNull_eq, barS]
 cases hn : nnW t.FWraps.l with
 | true => simp only [cond_true]; rw [Z41_is h (head_one hn)]; rfl
 | false =>
  simp only [cond_false]
  rw [appC_ok (by omega) (by simp; omega)]
  rfl
theorem barS_len (s : Sl Int) : (barS s).l.length ≤ s.l.length := by unfold barS; cases nnW s.l <;> simp
theorem r05_isList_eq {t : TRef} (h : t.FWraps.l.length ≤ 1048576) : Z37_q t = some (liW (barS t.FWraps).l) := by
 unfold Z37_q
 rw [r05_nullable_eq h]
 simp only [Option.bind_some, on, liW]
 cases (barS t.FWraps).l with
 | nil => rfl
 | cons a r => simp; by_cases h : a = 2 <;> simp [h]
theorem r05_inner_eq {t : TRef} (h : t.FWraps.l.length ≤ 1048576) : ∃ x, Z36_q t = some (x, liW (barS t.FWraps).l) ∧ (liW (barS t.FWraps).l = true → RefEq (innerT t) x) := by
 unfold Z36_q
 rw [r05_isList_eq h]
 simp only [Option.bind_some]
 cases hl : liW (barS t.FWraps).l with
 | false => exact ⟨_, rfl, fun h => by cases h⟩
 | true =>
  have := barS_len t.FWraps
  simp only [Bool.not_true, cond_false]
  rw [r05_nullable_eq h]
  simp only [Option.bind_some]
  rw [Z41_is (show (barS t.FWraps).l.length ≤ 1048576 by omega) (list_one hl)]
  exact ⟨_, rfl, fun _ => ⟨rfl, rfl⟩⟩
theorem RefEq.bar {a b : TRef} (h : RefEq a b) : (barS a.FWraps).l = (barS b.FWraps).l := by
 unfold barS; rw [h.2]; cases nnW b.FWraps.l <;> simp [h.2]
theorem r10_findAux (l : List TDef) (s : Bs) : Z53_q6 s l = Z70_q7 s l := by
 induction l with
 | nil => rfl
 | cons a r ih => rw [Z53_q6, Z70_q7, ih]; rfl
theorem r10_find_eq (d : TDoc) (s : Bs) : Z53_q d s = fnd d.FDefs.l s := by
 rw [← find_eq]; unfold Z53_q Z70_q; rw [r10_findAux]; all_goals rfl
theorem r10_inputAux (l : List TInput) (s : Bs) : Z54_q6 s l = Z71_q7 s l := by
 induction l with
 | nil => rfl
 | cons a r ih => rw [Z54_q6, Z71_q7, ih]; rfl
theorem r10_inputOf_eq (t : Sl TInput) (s : Bs) : Z54_q t s = fndI t.l s := by
 rw [← inputOf_eq]; unfold Z54_q Z71_q; rw [r10_inputAux]; all_goals rfl
theorem fnd_none (l : List TDef) (s : Bs) (h : (fnd l s).2 = false) : (fnd l s).1 = TDef.zero := by
 unfold fnd at *
 cases e : l.find? (fun t => t.FName == s) with
 | none => rfl
 | some t => rw [e] at h; cases h
theorem r10_leaf_eq (d : TDoc) (s : Bs) : Z56_q d s = Z73_q d s := by
 unfold Z56_q Z73_q Z75_q
 simp only [on, r10_find_eq, find_eq]
 show (Z74_q s || _) = _
 cases h : (fnd d.FDefs.l s).2 with
 | true => cases Z74_q s <;> simp
 | false => rw [fnd_none _ _ h]; cases Z74_q s <;> simp [TDef.zero]
theorem r10_isInput_eq (d : TDoc) (s : Bs) : Z55_q d s = Z72_q d s := by
 unfold Z55_q Z72_q Z75_q
 simp only [on, r10_find_eq, find_eq, r10_leaf_eq]
 cases h : (fnd d.FDefs.l s).2 with
 | true => cases Z73_q d s <;> simp
 | false => rw [fnd_none _ _ h]; cases Z73_q d s <;> simp [TDef.zero]
theorem isInput_kind {d : TDoc} {s : Bs} (h : Z72_q d s = true) (hs : Z74_q s = false) : (fnd d.FDefs.l s).1.FKind = 4 ∨ (fnd d.FDefs.l s).1.FKind = 5 := by
 unfold Z72_q Z73_q Z75_q on at h
 simp only [hs, find_eq, Bool.not_false, cond_true, Bool.false_or] at h
 by_cases h4 : (fnd d.FDefs.l s).1.FKind = 4
 ·exact .inl h4
 ·simp [h4] at h; exact .inr h
end Go.Proofs

namespace Go.Proofs
open Go Go.Ab
def bB : Nat := 549755813888
def Rl : Nat → TValue → TValue → Prop
 | 0, _, _ => False
 | n + 1, v, w => v.FKind = w.FKind ∧ (v.FInt = w.FInt ∧ -9223372036854775808 ≤ v.FInt ∧ v.FInt ≤ 9223372036854775807) ∧ v.FText = w.FText ∧ v.FKeys.l = w.FKeys.l ∧ (v.FKeys.nl = true → v.FKeys.l = []) ∧ v.FKeys.l.length ≤ bB ∧ v.FItems.l.length ≤ bB ∧
  (v.FKind = 3 ∨ v.FKind = 4 → v.FInt = 0 ∧ v.FItems.l = [] ∧ v.FKeys.l = []) ∧ All2 (Rl n) v.FItems.l w.FItems.l
theorem Rl.mono : ∀ {n m : Nat} {v w : TValue}, n ≤ m → Rl n v w → Rl m v w
 | 0, _, _, _, _, h => h.elim
 | n + 1, 0, _, _, hn, _ => by omega
 | n + 1, m + 1, v, w, hn, ⟨a, b, c, d, e, f, g, i, k⟩ => ⟨a, b, c, d, e, f, g, i, k.imp fun _ _ h => Rl.mono (by omega) h⟩
theorem appC80 {α : Type} {s r : Sl α} (h : s.l.length + r.l.length ≤ 1099511627776) : appC 80 s r = some ⟨s.nl && r.l.isEmpty, s.l ++ r.l⟩ := by
 unfold appC; rw [if_pos]
 have : (s.l.length + r.l.length) * 80 ≤ 1099511627776 * 80 := Nat.mul_le_mul_right _ h
 unfold maxN; omega
theorem cloneS_eq {s : Sl Bs} (h : s.nl = true → s.l = []) (hl : s.l.length ≤ bB) : ∃ r, Z77_q s = some r ∧ r.l = s.l ∧ (r.nl = true → r.l = []) := by
 unfold Z77_q
 unfold bB at hl
 cases hn : s.nl with
 | true => exact ⟨Sl.nil, rfl, (h hn).symm, fun _ => rfl⟩
 | false => rw [cond_false, appC_ok32 (by omega) (by simp; omega)]; exact ⟨_, rfl, by simp, fun e => by simp at e⟩
theorem copy_rl : ∀ (n : Nat) {v w : TValue}, Rl n v w → ∀ m, 2 * n ≤ m → ∃ r, value_Copy_qn m v = some r ∧ Rl n r w
 | 0, _, _, h, _, _ => h.elim
 | n + 1, v, w, ⟨h1, h2, h3, h4, h5, h6, h7, h8, h9⟩, m, hm => by
  obtain ⟨m1, rfl⟩ : ∃ m1, m = m1 + 1 + 1 := ⟨m - 2, by omega⟩
  have hl : ∀ (l l' : List TValue) (acc acc' : List TValue) (s : Sl TValue), All2 (Rl n) l l' → All2 (Rl n) acc acc' → s.l = acc → s.l.length + l.length ≤ bB → ∃ s' : Sl TValue, Z93_q8 (value_Copy_qn m1) l s = some s' ∧ All2 (Rl n) s'.l (acc' ++ l') := by
   intro l l' acc acc' s hl
   induction hl generalizing acc acc' s with
   | nil => intro ha e _; exact ⟨s, rfl, by rw [e]; simpa using ha⟩
   | @cons a b t t' hab ht ih =>
    intro ha e hb
    obtain ⟨r, hr, hr'⟩ := copy_rl n hab m1 (by omega)
    rw [Z93_q8]
    simp only [Ab.on, hr, Option.bind_some]
    simp only [List.length_cons] at hb
    rw [appC80 (by unfold bB at hb; simp; omega), Option.bind_some]
    obtain ⟨s', e1, e2⟩ := ih (acc ++ [r]) (acc' ++ [b]) ⟨s.nl && [r].isEmpty, s.l ++ [r]⟩ (ha.append (.cons hr' .nil)) (by simp [e]) (by simp; omega)
    exact ⟨s', e1, by simpa using e2⟩
  obtain ⟨s', e1, e2⟩ := hl v.FItems.l w.FItems.l [] [] Sl.nil h9 .nil rfl (by simpa [Sl.nil] using h7)
  obtain ⟨k, e3, e4, e5⟩ := cloneS_eq h5 h6
  rw [value_Copy_qn, Z93_qn, e1, Option.bind_some]
  simp only [Ab.on, Option.bind_some, e3]
  have hlen := e2.length
  simp only [List.nil_append] at e2 hlen
  refine ⟨_, rfl, h1, h2, h3, ?_, e5, ?_, ?_, fun hk => ?_, e2⟩
  ·show k.l = _; rw [e4]; exact h4
  ·show k.l.length ≤ _; rw [e4]; exact h6
  ·show s'.l.length ≤ _; rw [hlen, ← h9.length]; exact h7
  ·obtain ⟨q1, q2, q3⟩ := h8 hk
   have : s'.l = [] := List.eq_nil_of_length_eq_zero (by rw [hlen, ← h9.length, q2]; rfl)
   exact ⟨q1, this, by show k.l = []; rw [e4]; exact q3⟩
theorem rcopy_rl : ∀ (n : Nat) {v w : TValue}, Rl n v w → ∀ m, 2 * n ≤ m → ∃ r, r02_Copy_qn m w = some r ∧ Rl n v r
 | 0, _, _, h, _, _ => h.elim
 | n + 1, v, w, ⟨h1, h2, h3, h4, h5, h6, h7, h8, h9⟩, m, hm => by
  obtain ⟨m1, rfl⟩ : ∃ m1, m = m1 + 1 + 1 := ⟨m - 2, by omega⟩
  have hl : ∀ (l l' : List TValue) (acc acc' : List TValue) (s : Sl TValue), All2 (Rl n) l l' → All2 (Rl n) acc acc' → s.l = acc' → s.l.length + l'.length ≤ bB → ∃ s' : Sl TValue, Z30_q7 (r02_Copy_qn m1) l' s = some s' ∧ All2 (Rl n) (acc ++ l) s'.l := by
   intro l l' acc acc' s hl
   induction hl generalizing acc acc' s with
   | nil => intro ha e _; exact ⟨s, rfl, by rw [e]; simpa using ha⟩
   | @cons a b t t' hab ht ih =>
    intro ha e hb
    obtain ⟨r, hr, hr'⟩ := rcopy_rl n hab m1 (by omega)
    rw [Z30_q7]
    simp only [Ab.on, hr, Option.bind_some]
    simp only [List.length_cons] at hb
    rw [appC80 (by unfold bB at hb; simp; omega), Option.bind_some]
    obtain ⟨s', e1, e2⟩ := ih (acc ++ [a]) (acc' ++ [r]) ⟨s.nl && [r].isEmpty, s.l ++ [r]⟩ (ha.append (.cons hr' .nil)) (by simp [e]) (by simp; omega)
    exact ⟨s', e1, by simpa using e2⟩
  obtain ⟨s', e1, e2⟩ := hl v.FItems.l w.FItems.l [] [] Sl.nil h9 .nil rfl (by rw [← h9.length]; simpa [Sl.nil] using h7)
  rw [r02_Copy_qn, Z30_qn, e1, Option.bind_some]
  simp only [Ab.on, Option.bind_some]
  rw [appC_ok32 (by omega) (by rw [← h4]; unfold bB at h6; simp; omega), Option.bind_some]
  simp only [List.nil_append] at e2
  exact ⟨_, rfl, h1, h2, h3, (show v.FKeys.l = [] ++ w.FKeys.l by simpa using h4), h5, h6, h7, h8, e2⟩
end Go.Proofs

namespace Go.Proofs
open Go Go.Ab
theorem cnt_both (d : TDoc) (va : TValue) (li : Bool) (n lvl : Int) (hn : 0 ≤ n ∧ n ≤ 4096) :
  (∃ e c' k', e ≠ 0 ∧ Z7_q ⟨d, va, li, n⟩ lvl = some (e, c') ∧ Z65_q ⟨d, va, li, n, 0⟩ lvl = some k' ∧ k'.Ferr = e) ∨
  (lvl ≤ 24 ∧ n + 1 ≤ 4096 ∧ Z7_q ⟨d, va, li, n⟩ lvl = some (0, ⟨d, va, li, n + 1⟩) ∧ Z65_q ⟨d, va, li, n, 0⟩ lvl = some ⟨d, va, li, n + 1, 0⟩) := by
 have ha : addC n (1 : Int) = some (n + 1) := addC_ok (by omega)
 unfold Z7_q Z65_q Z63_q
 simp only [Ab.on, ha, Option.bind_some]
 by_cases h1 : (24 : Int) < lvl
 ·left
  simp only [h1, decide_true, cond_true, ha, Option.bind_some]
  by_cases h2 : (4096 : Int) < n + 1
  ·exact ⟨5, _, _, by omega, rfl, by simp [h2]; rfl, rfl⟩
  ·exact ⟨5, _, _, by omega, rfl, by simp [h2]; rfl, rfl⟩
 ·simp only [h1, decide_false, cond_false, ha, Option.bind_some]
  by_cases h2 : (4096 : Int) < n + 1
  ·left
   exact ⟨4, _, _, by omega, by simp [h2]; rfl, by simp [h2]; rfl, rfl⟩
  ·right
   exact ⟨by omega, by omega, by simp [h2], by simp [h2]⟩
def OutU (n : Nat) (d : TDoc) (va : TValue) (li : Bool) (v : TValue) (p : Option (Int × Coerce_coercer)) (q : Option (TValue × R12_work)) : Prop :=
 (∃ e c' x k', e ≠ 0 ∧ p = some (e, c') ∧ q = some (x, k') ∧ k'.Ferr = e) ∨ (∃ m x, 0 ≤ m ∧ m ≤ 4096 ∧ p = some (0, ⟨d, va, li, m⟩) ∧ q = some (x, ⟨d, va, li, m, 0⟩) ∧ Rl n v x)
theorem use_stop (a2 : Int) (k : R12_work → TValue → Int → Option (TValue × R12_work)) (l : List TValue) (w : R12_work) (x : TValue) (h : w.Ferr ≠ 0) : Z69_q14 a2 k l w x = some (w, x) := by
 cases l with
 | nil => rfl
 | cons a t => rw [Z69_q14]; simp [h]
theorem use_rel : ∀ (n : Nat) {v w : TValue}, Rl n v w → ∀ (m : Nat) (d : TDoc) (va : TValue) (li : Bool) (c lvl : Int), n ≤ m → 0 ≤ c ∧ c ≤ 4096 → 0 ≤ lvl ∧ lvl ≤ 1099511627776 →
  OutU n d va li v (Z13_qn m ⟨d, va, li, c⟩ v lvl) (Z69_qn m ⟨d, va, li, c, 0⟩ w lvl)
 | 0, _, _, h, _, _, _, _, _, _, _, _, _ => h.elim
 | n + 1, v, w, ⟨h1, h2, h3, h4, h5, h6, h7, h8, h9⟩, m, d, va, li, c, lvl, hm, hc, hl => by
  obtain ⟨m, rfl⟩ : ∃ m1, m = m1 + 1 := ⟨m - 1, by omega⟩
  rw [Z13_qn, Z69_qn]
  have hk : appC 16 ((TValue.mk w.FKind w.FInt w.FText true ([]) (Sl.nil : Sl Bs)).FKeys) w.FKeys = some ⟨true && w.FKeys.l.isEmpty, [] ++ w.FKeys.l⟩ := by
   rw [appC_ok32 (by omega) (by show ([] : List Bs).length + _ ≤ _; rw [← h4]; unfold bB at h6; simp; omega)]; rfl
  rcases cnt_both d va li c lvl hc with ⟨e, c', k', he, e1, e2, e3⟩ | ⟨hl2, hc2, e1, e2⟩
  ·left
   rw [e1, e2, Option.bind_some, Option.bind_some, hk, Option.bind_some, use_stop _ _ _ _ _ (by rw [e3]; exact he)]
   exact ⟨e, c', _, k', he, by simp [he], rfl, e3⟩
  ·rw [e1, e2, Option.bind_some, Option.bind_some, hk, Option.bind_some]
   have hloop : ∀ (l l' : List TValue) (acc acc' : List TValue) (x : TValue) (c : Int), All2 (Rl n) l l' → All2 (Rl n) acc acc' → x.FItems.l = acc' → x.FItems.l.length + l'.length ≤ bB → 0 ≤ c ∧ c ≤ 4096 →
     (∃ e c' k' x', e ≠ 0 ∧ Z13_q13 lvl (Z13_qn m) l ⟨d, va, li, c⟩ = some (Sum.inr (e, c')) ∧ Z69_q14 lvl (Z69_qn m) l' ⟨d, va, li, c, 0⟩ x = some (k', x') ∧ k'.Ferr = e) ∨
     (∃ c' x', 0 ≤ c' ∧ c' ≤ 4096 ∧ Z13_q13 lvl (Z13_qn m) l ⟨d, va, li, c⟩ = some (Sum.inl ⟨d, va, li, c'⟩) ∧ Z69_q14 lvl (Z69_qn m) l' ⟨d, va, li, c, 0⟩ x = some (⟨d, va, li, c', 0⟩, x') ∧
      x'.FKind = x.FKind ∧ x'.FInt = x.FInt ∧ x'.FText = x.FText ∧ x'.FKeys = x.FKeys ∧ All2 (Rl n) (acc ++ l) x'.FItems.l) := by
    intro l l' acc acc' x c hall
    induction hall generalizing acc acc' x c with
    | nil => intro ha e hb hc; right; exact ⟨c, x, hc.1, hc.2, rfl, rfl, rfl, rfl, rfl, rfl, by rw [e]; simpa using ha⟩
    | @cons a b t t' hab ht ih =>
     intro ha e hb hc
     simp only [List.length_cons] at hb
     rw [Z13_q13, Z69_q14]
     simp only [Ab.on, addC_ok (show -9223372036854775808 ≤ lvl + 1 ∧ lvl + 1 ≤ 9223372036854775807 by omega), Option.bind_some, decide_true, cond_true]
     rcases use_rel n hab m d va li c (lvl + 1) (by omega) hc (by omega) with ⟨e0, c', y, k', he, p1, p2, p3⟩ | ⟨c', y, hc1, hc2, p1, p2, p3⟩
     ·left
      rw [p1, p2, Option.bind_some, Option.bind_some, appC80 (by unfold bB at hb; simp; omega), Option.bind_some, use_stop _ _ _ _ _ (by rw [p3]; exact he)]
      exact ⟨e0, c', k', _, he, by simp [he], rfl, p3⟩
     ·rw [p1, p2, Option.bind_some, Option.bind_some, appC80 (by unfold bB at hb; simp; omega), Option.bind_some]
      have := ih (acc ++ [a]) (acc' ++ [y]) (TValue.mk x.FKind x.FInt x.FText (x.FItems.nl && [y].isEmpty) (x.FItems.l ++ [y]) x.FKeys) c' (ha.append (.cons p3 .nil)) (by show x.FItems.l ++ [y] = _; rw [e]) (by show (x.FItems.l ++ [y]).length + _ ≤ _; simp; omega) ⟨hc1, hc2⟩
      simp only [decide_true, Bool.not_true, cond_false]
      rcases this with ⟨e2, c2, k2, x2, g0, g1, g2, g3⟩ | ⟨c2, x2, g1, g2, g3, g4, q1, q2, q3, q4, q5⟩
      ·exact .inl ⟨e2, c2, k2, x2, g0, g1, g2, g3⟩
      ·exact .inr ⟨c2, x2, g1, g2, g3, g4, q1, q2, q3, q4, by simpa using q5⟩
   rcases hloop v.FItems.l w.FItems.l [] [] (TValue.mk w.FKind w.FInt w.FText true [] ⟨true && w.FKeys.l.isEmpty, [] ++ w.FKeys.l⟩) (c + 1) h9 .nil rfl (by show ([] : List TValue).length + _ ≤ _; rw [← h9.length]; simpa using h7) (by omega) with
    ⟨e, c', k', x', he, p1, p2, p3⟩ | ⟨c', x', g1, g2, p1, p2, q1, q2, q3, q4, q5⟩
   ·left
    refine ⟨e, c', x', k', he, ?_, ?_, p3⟩
    ·simp only [decide_true, Bool.not_true, cond_false, p1, Option.bind_some]
    ·exact (congrArg (fun o => Option.bind o _) p2)
   ·right
    refine ⟨c', x', g1, g2, ?_, ?_, by rw [q1]; exact h1, ⟨by rw [q2]; exact h2.1, h2.2⟩, by rw [q3]; exact h3, by rw [q4]; show _ = [] ++ w.FKeys.l; simpa using h4, h5, h6, h7, h8, by simpa using q5⟩
    ·simp only [decide_true, Bool.not_true, cond_false, p1, Option.bind_some, Ab.on]
    ·exact (congrArg (fun o => Option.bind o _) p2)
end Go.Proofs

namespace Go.Proofs
open Go Go.Ab
def zv : TValue := TValue.mk (0 : Int) (0 : Int) ([] : Bs) true ([]) (Sl.nil : Sl Bs)
theorem zv_rl : Rl 1 zv zv := ⟨rfl, ⟨rfl, by decide, by decide⟩, rfl, rfl, fun _ => rfl, by show 0 ≤ _; omega, by show 0 ≤ _; omega, fun _ => ⟨rfl, rfl, rfl⟩, .nil⟩
theorem get_rl {n : Nat} {v w : TValue} (h : Rl (n + 1) v w) (hn : n ≤ 1099511627776) (s : Bs) : ∃ x y b, Z91_q v s = some (x, b) ∧ Z26_q w s = some (y, b) ∧ ((b = true ∧ Rl n x y) ∨ (b = false ∧ x = zv ∧ y = zv)) := by
 obtain ⟨h1, h2, h3, h4, h5, h6, h7, h8, h9⟩ := h
 have hk : ∀ (l : List Bs) (i : Nat), (∃ j : Nat, Z82_q6 s l i = Sum.inr (j : Int) ∧ ∀ w : TValue, Z26_q10 w s l i = (bif decide (((w.FItems.l.length : Nat) : Int) ≤ ((j : Nat) : Int)) then some (Sum.inr (zv, false)) else ((w.FItems.l[j]?).bind fun x27 => (r02_Copy_q x27).bind fun x28 => some (Sum.inr (x28, true))))) ∨
   (Z82_q6 s l i = Sum.inl () ∧ ∀ w : TValue, Z26_q10 w s l i = some (Sum.inl ())) := by
  intro l
  induction l with
  | nil => intro i; exact .inr ⟨rfl, fun _ => rfl⟩
  | cons a r ih =>
   intro i
   rw [Z82_q6]
   simp only [Ab.on]
   cases e : (s == a) with
   | true => exact .inl ⟨i, rfl, fun w => by rw [Z26_q10]; simp only [Ab.on, show (a == s) = true by rw [Bool.beq_comm]; exact e, cond_true]; rfl⟩
   | false =>
    have e' : (a == s) = false := by rw [Bool.beq_comm]; exact e
    rcases ih (i + 1) with ⟨j, q1, q2⟩ | ⟨q1, q2⟩
    ·exact .inl ⟨j, q1, fun w => by rw [Z26_q10]; simp only [Ab.on, e', cond_false]; exact q2 w⟩
    ·exact .inr ⟨q1, fun w => by rw [Z26_q10]; simp only [Ab.on, e', cond_false]; exact q2 w⟩
 have hV : ∀ i : Int, Z82_q v.FKeys s = i → Z91_q v s = (if v.FKind = 6 ∧ 0 ≤ i ∧ i < v.FItems.l.length then ((idxC v.FItems.l i).bind fun x9 => (value_Copy_q x9).bind fun x10 => some (x10, true)) else some (zv, false)) := by
  intro i hi
  unfold Z91_q
  rw [hi]
  by_cases q1 : v.FKind = 6 <;> by_cases q2 : i < 0 <;> by_cases q3 : (v.FItems.l.length : Int) ≤ i <;> simp [Ab.on, q1, q2, q3, zv] <;> try omega
  all_goals (rw [if_pos (by omega)])
 unfold Z26_q
 rw [← h1, ← h4]
 rcases hk v.FKeys.l 0 with ⟨j, q1, q2⟩ | ⟨q1, q2⟩
 ·have hi : Z82_q v.FKeys s = (j : Int) := by unfold Z82_q; rw [q1]; rfl
  rw [hV _ hi, q2 w, ← h9.length]
  by_cases h6' : v.FKind = 6
  ·simp only [h6', decide_true, Bool.not_true, cond_false, true_and]
   by_cases hj : j < v.FItems.l.length
   ·obtain ⟨y, hy, hr⟩ := h9.get (List.getElem?_eq_getElem hj)
    obtain ⟨x', e1, r1⟩ := copy_rl n hr F0 (by rw [F0_eq]; omega)
    obtain ⟨y', e2, r2⟩ := rcopy_rl n r1 F0 (by rw [F0_eq]; omega)
    have hq : decide (((v.FItems.l.length : Nat) : Int) ≤ (j : Int)) = false := decide_eq_false (by omega)
    refine ⟨x', y', true, ?_, ?_, .inl ⟨rfl, r2⟩⟩
    ·rw [if_pos (by omega)]
     unfold idxC; rw [if_pos (by omega)]
     rw [show ((j : Int).toNat) = j by omega, List.getElem?_eq_getElem hj, Option.bind_some]
     unfold value_Copy_q; rw [e1]; rfl
    ·rw [hq, cond_false, hy, Option.bind_some]; unfold r02_Copy_q; rw [e2]; rfl
   ·have hq : decide (((v.FItems.l.length : Nat) : Int) ≤ (j : Int)) = true := decide_eq_true (by omega)
    refine ⟨zv, zv, false, by rw [if_neg (by omega)], ?_, .inr ⟨rfl, rfl, rfl⟩⟩
    rw [hq]; rfl
  ·refine ⟨zv, zv, false, by rw [if_neg (fun h => h6' h.1)], ?_, .inr ⟨rfl, rfl, rfl⟩⟩
   simp only [h6', decide_false, Bool.not_false, cond_true]; rfl
 ·have hi : Z82_q v.FKeys s = -1 := by unfold Z82_q; rw [q1]; rfl
  rw [hV _ hi, q2 w]
  refine ⟨zv, zv, false, by rw [if_neg (by omega)], ?_, .inr ⟨rfl, rfl, rfl⟩⟩
  cases decide (v.FKind = 6) <;> rfl
theorem missing_eq {n : Nat} {va : TValue} (h : Rl (n + 1) va va) (hn : n ≤ 1099511627776) (d : TDoc) (li : Bool) (c : Int) {m : Nat} {v w : TValue} (hv : Rl m v w) :
  ∃ b, Z10_q ⟨d, va, li, c⟩ v = some b ∧ Z64_q ⟨d, va, li, c, 0⟩ w = some b := by
 cases m with
 | zero => exact hv.elim
 | succ m =>
  obtain ⟨h1, _, h3, _⟩ := hv
  unfold Z10_q Z64_q
  simp only
  rw [← h1, ← h3]
  obtain ⟨x, y, b, e1, e2, _⟩ := get_rl h hn v.FText
  rw [e1, e2]
  cases li <;> cases hk : decide (v.FKind = 7) <;> exact ⟨_, rfl, rfl⟩
end Go.Proofs

namespace Go.Proofs
open Go Go.Ab
theorem u8_small {n : Nat} (h : n < 256) : IntKind.wrap .u8 (n : Int) = (n : Int) := by
 have : (n : Int) % 256 = n := by omega
 simp [IntKind.wrap, IntKind.bits, IntKind.signed]; omega
theorem bytes_one (k : Nat) : bytesC (⟨false, [((48 + k : Nat) : Int)]⟩ : Sl Int) = [UInt8.ofNat (48 + k)] := by
 show [UInt8.ofNat ((48 + k : Nat) : Int).toNat] = _
 rw [Int.toNat_natCast]
theorem dlen : ∀ (f u : Nat), u < 10 ^ f → (Lib.decDigits u).length ≤ f + 1 := by
 intro f
 induction f with
 | zero =>
  intro u hu
  have : u = 0 := by simpa using hu
  subst this; rw [Lib.decDigits]; simp
 | succ f ih =>
  intro u hu
  rw [Lib.decDigits]
  split
  ·simp
  ·have := ih (u / 10) (by rw [Nat.pow_succ] at hu; omega)
   simp; omega
theorem dlen20 {u : Nat} (h : u ≤ 9223372036854775808) : (Lib.decDigits u).length ≤ 21 := dlen 20 u (by omega)
theorem itoaLen {n : Int} (h0 : -9223372036854775808 ≤ n) (h1 : n ≤ 9223372036854775807) : (Lib.itoa n).length ≤ 22 := by
 unfold Lib.itoa
 split
 ·have := dlen20 (u := n.natAbs) (by omega); simp; omega
 ·have := dlen20 (u := n.toNat) (by omega); omega
theorem digits_eq : ∀ (f u : Nat), u < 10 ^ f → u ≤ 9223372036854775808 → f ≤ 30 → ∀ m, f + 1 ≤ m → Z23_qn m (-(u : Int)) = some (Lib.decDigits u) := by
 intro f
 induction f with
 | zero =>
  intro u hu hb hf m hm
  have : u = 0 := by simpa using hu
  subst this
  obtain ⟨m, rfl⟩ : ∃ k, m = k + 1 := ⟨m - 1, by omega⟩
  rw [Lib.decDigits]; rfl
 | succ f ih =>
  intro u hu hb hf m hm
  obtain ⟨m, rfl⟩ : ∃ k, m = k + 1 := ⟨m - 1, by omega⟩
  have h1 : Int.tmod (-(u : Int)) 10 = -((u % 10 : Nat) : Int) := by rw [Int.neg_tmod]; rfl
  have h2 : Int.tdiv (-(u : Int)) 10 = -((u / 10 : Nat) : Int) := by rw [Int.neg_tdiv]; rfl
  rw [Z23_qn, h1, h2, subC_ok (by omega), Option.bind_some]
  have h3 : (48 : Int) - -((u % 10 : Nat) : Int) = ((48 + u % 10 : Nat) : Int) := by omega
  rw [h3, u8_small (by omega), Lib.decDigits]
  by_cases hs : u < 10
  ·rw [dif_pos hs, show decide ((-10 : Int) < -(u : Int)) = true from decide_eq_true (by omega), cond_true, Nat.mod_eq_of_lt hs, bytes_one]
  ·rw [dif_neg hs, show decide ((-10 : Int) < -(u : Int)) = false from decide_eq_false (by omega), cond_false, IntWalk.i64_in _ (by omega), ih (u / 10) (by rw [Nat.pow_succ] at hu; omega) (by omega) (by omega) m (by omega), Option.bind_some]
   have hl := dlen20 (u := u / 10) (by omega)
   rw [bytes_one, catC_ok (by simp; omega), Option.bind_some]
theorem decimal_eq {n : Int} (h0 : -9223372036854775808 ≤ n) (h1 : n ≤ 9223372036854775807) : Z20_q n = some (Lib.itoa n) := by
 unfold Z20_q Z23_q
 have hF : ∀ u : Nat, u ≤ 9223372036854775808 → Z23_qn F0 (-(u : Int)) = some (Lib.decDigits u) := fun u hu => digits_eq 20 u (by omega) hu (by omega) F0 (by rw [F0_eq]; omega)
 by_cases hn : n < 0
 ·obtain ⟨u, rfl⟩ : ∃ u : Nat, n = -(u : Int) := ⟨n.natAbs, by omega⟩
  rw [show decide (-(u : Int) < 0) = true from decide_eq_true hn, cond_true, hF u (by omega), Option.bind_some]
  have hl := dlen20 (u := u) (by omega)
  rw [catC_ok (by simp; omega), Option.bind_some]
  unfold Lib.itoa; rw [if_pos hn, show (-(u : Int)).natAbs = u by omega]; rfl
 ·obtain ⟨u, rfl⟩ : ∃ u : Nat, n = (u : Int) := ⟨n.natAbs, by omega⟩
  rw [show decide ((u : Int) < 0) = false from decide_eq_false hn, cond_false, IntWalk.i64_in _ (by omega), show (0 : Int) - (u : Int) = -(u : Int) by omega, hF u (by omega), Option.bind_some]
  unfold Lib.itoa; rw [if_neg hn, Int.toNat_natCast]
theorem textDecimal_eq {n : Int} (h0 : -9223372036854775808 ≤ n) (h1 : n ≤ 9223372036854775807) : Z85_q n = some (Lib.itoa n) := by
 unfold Z85_q Z83_q Z83
 rw [if_pos ⟨h0, h1, by have := itoaLen h0 h1; unfold maxS; omega⟩]; rfl
end Go.Proofs

namespace Go.Proofs
open Go Go.Ab
def textV (s : Bs) : TValue := TValue.mk (3 : Int) (0 : Int) s true ([]) (Sl.nil : Sl Bs)
theorem textV_rl (s : Bs) : Rl 1 (textV s) (textV s) := ⟨rfl, ⟨rfl, by show _ ≤ (0 : Int); decide, by show (0 : Int) ≤ _; decide⟩, rfl, rfl, fun _ => rfl, by show 0 ≤ _; omega, by show 0 ≤ _; omega, fun _ => ⟨rfl, rfl, rfl⟩, .nil⟩
def OutL (n : Nat) (d : TDoc) (va : TValue) (li : Bool) (c : Int) (p : Option (TValue × Int)) (q : Option (TValue × R12_work)) : Prop :=
 (∃ x y k', p = some (x, 23) ∧ q = some (y, k') ∧ k'.Ferr = 23) ∨ (∃ x y, p = some (x, 0) ∧ q = some (y, ⟨d, va, li, c, 0⟩) ∧ Rl n x y)
theorem fail_new (d : TDoc) (va : TValue) (li : Bool) (c e : Int) : Z63_q ⟨d, va, li, c, 0⟩ e = ⟨d, va, li, c, e⟩ := rfl
theorem scalar_rel {n : Nat} {v w : TValue} (h : Rl (n + 1) v w) (d : TDoc) (va : TValue) (li : Bool) (c : Int) (s : Bs) (hs : Z74_q s = true) :
  OutL (n + 1) d va li c (Z8_q ⟨d, va, li, c⟩ s v) (Z68_q ⟨d, va, li, c, 0⟩ s w) := by
 obtain ⟨h1, h2, h3, _⟩ := id h
 have htx : Z20_q v.FInt = some (Lib.itoa v.FInt) := decimal_eq h2.2.1 h2.2.2
 have htx' : Z85_q v.FInt = some (Lib.itoa v.FInt) := textDecimal_eq h2.2.1 h2.2.2
 have hT : Z92_q (Lib.itoa v.FInt) = textV (Lib.itoa v.FInt) := rfl
 have hrl : Rl (n + 1) (textV (Lib.itoa v.FInt)) (textV (Lib.itoa v.FInt)) := (textV_rl _).mono (by omega)
 unfold Z8_q Z68_q
 rw [← h1, ← h2.1]
 simp only [Ab.on, fail_new, htx, htx', hT, Option.bind_some]
 unfold Z74_q at hs
 cases e1 : (s == ([73, 110, 116] : Bs))
 ·cases e2 : (s == ([83, 116, 114, 105, 110, 103] : Bs))
  ·cases e3 : (s == ([66, 111, 111, 108, 101, 97, 110] : Bs))
   ·cases e4 : (s == ([73, 68] : Bs))
    ·rw [e1, e2, e3, e4] at hs; cases hs
    ·by_cases k2 : v.FKind = 2
     ·simp only [k2, decide_true, cond_true, cond_false, Bool.false_and, Bool.and_true, Bool.true_and, Option.bind_some]
      exact .inr ⟨_, _, rfl, rfl, hrl⟩
     ·by_cases k3 : v.FKind = 3
      ·simp [k3]
       exact .inr ⟨_, _, rfl, rfl, h⟩
      ·simp [k2, k3]
       exact .inl ⟨_, _, _, rfl, rfl, rfl⟩
   ·by_cases k1 : v.FKind = 1
    ·simp [k1]
     exact .inr ⟨_, _, rfl, rfl, h⟩
    ·simp [k1]
     have e4 : (s == ([73, 68] : Bs)) = false := by
      rw [beq_iff_eq] at e3; rw [e3]; rfl
     simp [e4]
     exact .inl ⟨_, _, _, rfl, rfl, rfl⟩
  ·have e3 : (s == ([66, 111, 111, 108, 101, 97, 110] : Bs)) = false := by rw [beq_iff_eq] at e2; rw [e2]; rfl
   have e4 : (s == ([73, 68] : Bs)) = false := by rw [beq_iff_eq] at e2; rw [e2]; rfl
   by_cases k3 : v.FKind = 3
   ·simp [k3]
    exact .inr ⟨_, _, rfl, rfl, h⟩
   ·simp [k3, e3, e4]
    exact .inl ⟨_, _, _, rfl, rfl, rfl⟩
 ·have e2 : (s == ([83, 116, 114, 105, 110, 103] : Bs)) = false := by rw [beq_iff_eq] at e1; rw [e1]; rfl
  have e3 : (s == ([66, 111, 111, 108, 101, 97, 110] : Bs)) = false := by rw [beq_iff_eq] at e1; rw [e1]; rfl
  have e4 : (s == ([73, 68] : Bs)) = false := by rw [beq_iff_eq] at e1; rw [e1]; rfl
  by_cases k2 : v.FKind = 2 <;> by_cases k3 : (-2147483648 : Int) ≤ v.FInt <;> by_cases k4 : v.FInt < (2147483648 : Int) <;> simp [k2, k3, k4, e2, e3, e4]
  all_goals first
   | exact .inr ⟨_, _, rfl, rfl, h⟩
   | exact .inl ⟨_, _, _, rfl, rfl, rfl⟩
end Go.Proofs

namespace Go.Proofs
open Go Go.Ab
theorem contains_eq (ms : Sl TMember) (p : TMember → Bool) : Z79_q ms p = ms.l.any p := by
 have aux : ∀ (l : List TMember) (i : Nat), (l.any p = true → ∃ j : Nat, Z81_q6 p l i = Sum.inr (j : Int)) ∧ (l.any p = false → Z81_q6 p l i = Sum.inl ()) := by
  intro l
  induction l with
  | nil => intro i; exact ⟨fun h => (by cases h), fun _ => rfl⟩
  | cons a r ih =>
   intro i
   rw [Z81_q6, List.any_cons]
   simp only [Ab.on]
   cases p a with
   | true => exact ⟨fun _ => ⟨i, rfl⟩, fun h => (by cases h)⟩
   | false => simpa using ih (i + 1)
 unfold Z79_q Z81_q
 simp only [Ab.on]
 cases h : ms.l.any p with
 | true => obtain ⟨j, e⟩ := (aux ms.l 0).1 h; rw [e]; exact decide_eq_true (by show (0 : Int) ≤ (j : Int); omega)
 | false => rw [(aux ms.l 0).2 h]; rfl
theorem enum_loop (w : R12_work) (x : TValue) (l : List TMember) : Z62_q10 w x l = (if l.any (fun m => m.FName == x.FText) then Sum.inr (TValue.mk (4 : Int) (0 : Int) x.FText true ([]) (Sl.nil : Sl Bs), w) else Sum.inl ()) := by
 induction l with
 | nil => rfl
 | cons a r ih =>
  rw [Z62_q10, List.any_cons]
  simp only [Ab.on]
  cases a.FName == x.FText with
  | true => rfl
  | false => simpa using ih
theorem notScalar {s : Bs} (hs : Z74_q s = false) : (s == ([73, 110, 116] : Bs)) = false ∧ (s == ([83, 116, 114, 105, 110, 103] : Bs)) = false ∧ (s == ([66, 111, 111, 108, 101, 97, 110] : Bs)) = false ∧ (s == ([73, 68] : Bs)) = false := by
 unfold Z74_q at hs
 simp only [Bool.or_eq_false_iff] at hs
 exact ⟨hs.1.1.1, hs.1.1.2, hs.1.2, hs.2⟩
theorem enum_rel {n : Nat} {v w : TValue} (h : Rl (n + 1) v w) (d : TDoc) (va : TValue) (li : Bool) (c : Int) (s : Bs) (hs : Z74_q s = false) :
  OutL (n + 1) d va li c (Z8_q ⟨d, va, li, c⟩ s v) (some (Z62_q ⟨d, va, li, c, 0⟩ (fnd d.FDefs.l s).1 w)) := by
 obtain ⟨e1, e2, e3, e4⟩ := notScalar hs
 obtain ⟨h1, h2, h3, h4, h5, h6, h7, h8, h9⟩ := id h
 unfold Z8_q Z62_q Z9_q
 rw [← h1]
 simp only [e1, e2, e3, e4, Ab.on, fail_new, cond_false, find_eq, contains_eq, enum_loop, ← h3]
 have good : ∀ x : TValue, x.FKind = 4 → x.FInt = v.FInt → x.FText = v.FText → x.FItems.l = v.FItems.l → x.FKeys = v.FKeys → (v.FKind = 3 ∨ v.FKind = 4) → Rl (n + 1) x (TValue.mk (4 : Int) (0 : Int) v.FText true ([]) (Sl.nil : Sl Bs)) := by
  intro x a b c' d' e hk
  obtain ⟨g1, g2, g3⟩ := h8 hk
  refine ⟨a, ⟨by rw [b, g1]; rfl, by rw [b]; exact h2.2⟩, c', ?_, ?_, ?_, ?_, fun _ => ⟨by rw [b, g1], by rw [d', g2], by rw [e, g3]⟩, ?_⟩
  ·rw [e, g3]; rfl
  ·rw [e]; exact h5
  ·rw [e]; exact h6
  ·rw [d']; exact h7
  ·rw [d', g2]; exact .nil
 by_cases k4 : v.FKind = 4
 ·simp only [k4, decide_true, show decide ((4 : Int) = 3) = false from rfl, Bool.false_and, cond_false, cond_true, Bool.true_and, Bool.true_or]
  cases ha : (fnd d.FDefs.l s).1.FMembers.l.any (fun m => m.FName == v.FText) with
  | true => exact .inr ⟨_, _, rfl, rfl, good v k4 rfl rfl rfl rfl (.inr k4)⟩
  | false => exact .inl ⟨_, _, _, rfl, rfl, rfl⟩
 ·by_cases k3 : v.FKind = 3
  ·cases li with
   | true =>
    simp only [k3, decide_true, show decide ((3 : Int) = 4) = false from rfl, Bool.not_true, Bool.and_false, cond_false, Bool.false_and, Bool.false_or, Bool.not_false, cond_true]
    exact .inl ⟨_, _, _, rfl, rfl, rfl⟩
   | false =>
    simp only [k3, decide_true, Bool.not_false, Bool.and_true, cond_true, Bool.or_true]
    have hk : (TValue.mk (4 : Int) v.FInt v.FText v.FItems.nl v.FItems.l v.FKeys).FKind = 4 := rfl
    have ht : (TValue.mk (4 : Int) v.FInt v.FText v.FItems.nl v.FItems.l v.FKeys).FText = v.FText := rfl
    simp only [hk, ht, decide_true, cond_true, Bool.true_and]
    cases ha : (fnd d.FDefs.l s).1.FMembers.l.any (fun m => m.FName == v.FText) with
    | true => exact .inr ⟨_, _, rfl, rfl, good _ rfl rfl rfl rfl rfl (.inl k3)⟩
    | false => exact .inl ⟨_, _, _, rfl, rfl, rfl⟩
  ·simp only [k3, k4, decide_false, Bool.false_and, cond_false, Bool.not_false, cond_true, Bool.or_false]
   exact .inl ⟨_, _, _, rfl, rfl, rfl⟩
end Go.Proofs

namespace Go.Proofs
open Go Go.Ab
def atTail (n : Nat) (a1 : TRef) (a3 : Int) (y8_c0 : Coerce_coercer) (y9_l0 : TValue) : Option (TValue × Int × Coerce_coercer) :=
 (Z7_q y8_c0 a3).bind fun x13 => bif (!decide (x13.1 = (0 : Int))) then (some (zv, x13.1, x13.2)) else (bif (decide (y9_l0.FKind = (0 : Int))) then (bif Z89_q a1 then (some (zv, (23 : Int), x13.2)) else (some (zv, (0 : Int), x13.2))) else ((Z87_q a1).bind fun x28 => bif x28.2 then (((coerce_coercer_list_qn n) x13.2 x28.1 y9_l0 a3).bind fun x32 => some (x32.1, x32.2.1, x32.2.2)) else (bif (((Z70_q x13.2.Fd a1.FName).2 && (!(bif (Z70_q x13.2.Fd a1.FName).2 then Z74_q a1.FName else false))) && (decide ((Z70_q x13.2.Fd a1.FName).1.FKind = (5 : Int)))) then (((coerce_coercer_object_qn n) x13.2 (Z70_q x13.2.Fd a1.FName).1 y9_l0 a3).bind fun x40 => some (x40.1, x40.2.1, x40.2.2)) else ((Z8_q x13.2 a1.FName y9_l0).bind fun x42 => some (x42.1, x42.2, x13.2)))))
theorem at_unfold (n : Nat) (a0 : Coerce_coercer) (a1 : TRef) (a2 : TValue) (a3 : Int) : coerce_coercer_at_qn (n + 1) a0 a1 a2 a3 =
  bif (!Z72_q a0.Fd a1.FName) then (some (zv, (10 : Int), a0)) else (bif ((decide (a2.FKind = (7 : Int))) && a0.Fliteral) then ((Z91_q a0.Fvars a2.FText).bind fun x46 => bif (!decide (x46.1.FKind = (0 : Int))) then ((Z13_q a0 x46.1 a3).bind fun x50 => bif (!decide (x50.1 = (0 : Int))) then (some (zv, x50.1, x50.2)) else (some (x46.1, (0 : Int), x50.2))) else (atTail n a1 a3 a0 x46.1)) else (atTail n a1 a3 a0 a2)) := by
 rw [coerce_coercer_at_qn]; rfl
def coTail (n : Nat) (a1 : TRef) (a3 : Int) (y10_c0 : R12_work) (y11_l0 : TValue) : Option (TValue × R12_work) :=
 (Z65_q y10_c0 a3).bind fun x14 => bif (!decide (x14.Ferr = (0 : Int))) then (some (zv, x14)) else (bif (decide (y11_l0.FKind = (0 : Int))) then (some (zv, bif Z38_q a1 then Z63_q x14 (23 : Int) else x14)) else ((Z36_q a1).bind fun x31 => bif x31.2 then (((r12_work_list_qn n) x14 x31.1 y11_l0 a3).bind fun x35 => some (x35.1, x35.2)) else (bif Z57_q a1.FName then ((Z68_q x14 a1.FName y11_l0).bind fun x41 => some (x41.1, x41.2)) else (bif (decide ((Z53_q x14.Fd a1.FName).1.FKind = (4 : Int))) then (some ((Z62_q x14 (Z53_q x14.Fd a1.FName).1 y11_l0).1, (Z62_q x14 (Z53_q x14.Fd a1.FName).1 y11_l0).2)) else (((r12_work_object_qn n) x14 (Z53_q x14.Fd a1.FName).1 y11_l0 a3).bind fun x50 => some (x50.1, x50.2))))))
theorem co_unfold (n : Nat) (a0 : R12_work) (a1 : TRef) (a2 : TValue) (a3 : Int) : r12_work_coerce_qn (n + 1) a0 a1 a2 a3 =
  bif (!Z55_q a0.Fd a1.FName) then (some (zv, Z63_q a0 (10 : Int))) else (bif (a0.Flit && (decide (a2.FKind = (7 : Int)))) then ((Z26_q a0.Fvars a2.FText).bind fun x54 => bif (!decide (x54.1.FKind = (0 : Int))) then ((Z69_q a0 x54.1 a3).bind fun x59 => some (x59.1, x59.2)) else (coTail n a1 a3 a0 zv)) else (coTail n a1 a3 a0 a2)) := by
 rw [r12_work_coerce_qn]; rfl
def OutA (M : Nat) (d : TDoc) (va : TValue) (li : Bool) (p : Option (TValue × Int × Coerce_coercer)) (q : Option (TValue × R12_work)) : Prop :=
 (∃ e x c' y k', e ≠ 0 ∧ p = some (x, e, c') ∧ q = some (y, k') ∧ k'.Ferr = e) ∨ (∃ m x y, 0 ≤ m ∧ m ≤ 4096 ∧ p = some (x, 0, ⟨d, va, li, m⟩) ∧ q = some (y, ⟨d, va, li, m, 0⟩) ∧ Rl M x y)
theorem OutA.mono {M M' : Nat} {d : TDoc} {va : TValue} {li : Bool} {p : Option (TValue × Int × Coerce_coercer)} {q : Option (TValue × R12_work)} (h : OutA M d va li p q) (hm : M ≤ M') : OutA M' d va li p q := by
 rcases h with h | ⟨m, x, y, a, b, c, e, f⟩
 ·exact .inl h
 ·exact .inr ⟨m, x, y, a, b, c, e, f.mono hm⟩
theorem OutA.eta {M : Nat} {d : TDoc} {va : TValue} {li : Bool} {p : Option (TValue × Int × Coerce_coercer)} {q : Option (TValue × R12_work)} (h : OutA M d va li p q) :
  OutA M d va li (p.bind fun x => some (x.1, x.2.1, x.2.2)) (q.bind fun x => some (x.1, x.2)) := by
 have e1 : (p.bind fun x => some (x.1, x.2.1, x.2.2)) = p := by cases p <;> rfl
 have e2 : (q.bind fun x => some (x.1, x.2)) = q := by cases q <;> rfl
 rw [e1, e2]; exact h
theorem OutL.outA {n M : Nat} {d : TDoc} {va : TValue} {li : Bool} {c : Int} {p : Option (TValue × Int)} {q : Option (TValue × R12_work)} (h : OutL n d va li c p q) (hc : 0 ≤ c ∧ c ≤ 4096) (hm : n ≤ M) :
  OutA M d va li (p.bind fun x => some (x.1, x.2, (⟨d, va, li, c⟩ : Coerce_coercer))) q := by
 rcases h with ⟨x, y, k', e1, e2, e3⟩ | ⟨x, y, e1, e2, e3⟩
 ·exact .inl ⟨23, x, _, y, k', by decide, by rw [e1]; rfl, e2, e3⟩
 ·exact .inr ⟨c, x, y, hc.1, hc.2, by rw [e1]; rfl, e2, e3.mono hm⟩
def InOk (N : Nat) (x : TInput) : Prop := SOk x.FType.FWraps ∧ (x.FHas = true → Rl N x.FDefault x.FDefault)
def DefOk (N : Nat) (t : TDef) : Prop := t.FInputs.l.length ≤ 1048576 ∧ ∀ x ∈ t.FInputs.l, InOk N x
def ListOk (N M : Nat) (d : TDoc) (n m : Nat) (lvl : Int) : Prop := ∀ (va : TValue) (li : Bool) (c : Int) (t t' : TRef) (v w : TValue), Rl (N + 1) va va → 0 ≤ c ∧ c ≤ 4096 → SOk t.FWraps → RefEq t t' → Rl N v w →
 OutA M d va li (coerce_coercer_list_qn n ⟨d, va, li, c⟩ t v lvl) (r12_work_list_qn m ⟨d, va, li, c, 0⟩ t' w lvl)
def ObjOk (N M : Nat) (d : TDoc) (n m : Nat) (lvl : Int) : Prop := ∀ (va : TValue) (li : Bool) (c : Int) (t : TDef) (v w : TValue), Rl (N + 1) va va → 0 ≤ c ∧ c ≤ 4096 → DefOk N t → Rl N v w →
 OutA M d va li (coerce_coercer_object_qn n ⟨d, va, li, c⟩ t v lvl) (r12_work_object_qn m ⟨d, va, li, c, 0⟩ t w lvl)
theorem tail_rel {N M n m : Nat} {d : TDoc} {lvl : Int} (hM : N ≤ M) (hM1 : 1 ≤ M) (hD : ∀ s, DefOk N (fnd d.FDefs.l s).1) (hl : lvl ≤ 24 → ListOk N M d n m lvl) (ho : lvl ≤ 24 → ObjOk N M d n m lvl) {va : TValue} {li : Bool} {c : Int} {t t' : TRef} {v w : TValue}
  (hva : Rl (N + 1) va va) (hc : 0 ≤ c ∧ c ≤ 4096) (ht : SOk t.FWraps) (he : RefEq t t') (hk : v.FKind = w.FKind) (hv : v.FKind ≠ 0 → Rl N v w) (hi : Z72_q d t.FName = true) :
  OutA M d va li (atTail n t lvl ⟨d, va, li, c⟩ v) (coTail m t' lvl ⟨d, va, li, c, 0⟩ w) := by
 unfold atTail coTail
 rcases cnt_both d va li c lvl hc with ⟨e, c', k', he, e1, e2, e3⟩ | ⟨hl2, hc2, e1, e2⟩
 ·rw [e1, e2]
  exact .inl ⟨e, zv, c', zv, k', he, by simp [he], by simp [e3, he], e3⟩
 ·rw [e1, e2]
  simp only [Option.bind_some, decide_true, Bool.not_true, cond_false]
  rw [← hk, r05_isNonNull_eq, isNonNull_eq, ← he.2]
  by_cases k0 : v.FKind = 0
  ·simp only [k0, decide_true, cond_true, fail_new]
   cases nnW t.FWraps.l with
   | true => exact .inl ⟨23, _, _, _, _, by decide, rfl, rfl, rfl⟩
   | false => exact .inr ⟨c + 1, _, _, by omega, by omega, rfl, rfl, zv_rl.mono hM1⟩
  ·have hv := hv k0
   simp only [k0, decide_false, cond_false]
   have hlen : t'.FWraps.l.length ≤ 1048576 := by rw [← he.2]; exact ht.2
   obtain ⟨x, ex, hx⟩ := r05_inner_eq (t := t') hlen
   rw [ex, inner_eq ht, ← he.bar]
   simp only [Option.bind_some]
   cases hli : liW (barS t.FWraps).l with
   | true =>
    simp only [cond_true]
    refine (hl hl2 va li (c + 1) _ _ v w hva (by omega) (innerT_ok ht) ?_ hv).eta
    have h1 := hx (by rw [← he.bar]; exact hli)
    exact ⟨he.1.trans h1.1, by rw [← h1.2]; show (barS t.FWraps).l.drop 1 = (barS t'.FWraps).l.drop 1; rw [he.bar]⟩
   | false =>
    simp only [cond_false]
    rw [r10_find_eq, find_eq, ← he.1]
    have hs : Z57_q t.FName = Z74_q t.FName := rfl
    rw [hs]
    obtain ⟨N, rfl⟩ : ∃ N', N = N' + 1 := by cases N with | zero => exact hv.elim | succ N => exact ⟨N, rfl⟩
    cases hsc : Z74_q t.FName with
    | true =>
     have : ((fnd d.FDefs.l t.FName).2 && !(bif (fnd d.FDefs.l t.FName).2 then true else false)) = false := by cases (fnd d.FDefs.l t.FName).2 <;> rfl
     simp only [this, Bool.false_and, cond_false, cond_true]
     have := (scalar_rel hv d va li (c + 1) t.FName hsc).outA (M := M) (by omega) hM
     have e2 : ((Z68_q ⟨d, va, li, c + 1, 0⟩ t.FName w).bind fun x41 => some (x41.1, x41.2)) = Z68_q ⟨d, va, li, c + 1, 0⟩ t.FName w := by
      cases Z68_q ⟨d, va, li, c + 1, 0⟩ t.FName w <;> rfl
     rw [e2]; exact this
    | false =>
     simp only [cond_false]
     have hf : (fnd d.FDefs.l t.FName).2 = true := by
      cases hf : (fnd d.FDefs.l t.FName).2 with
      | true => rfl
      | false =>
       have := isInput_kind hi hsc
       rw [fnd_none _ _ hf] at this
       rcases this with h | h <;> cases h
     rw [hf]
     rcases isInput_kind hi hsc with h4 | h5
     ·simp only [h4, decide_true, show decide ((4 : Int) = 5) = false from rfl, Bool.and_false, cond_false, cond_true]
      exact (enum_rel hv d va li (c + 1) t.FName hsc).outA (M := M) (by omega) hM
     ·simp only [h5, decide_true, show decide ((5 : Int) = 4) = false from rfl, cond_true, cond_false, Bool.not_false, Bool.and_true, Bool.and_self]
      exact (ho hl2 va li (c + 1) _ v w hva (by omega) (hD _) hv).eta
end Go.Proofs

namespace Go.Proofs
open Go Go.Ab
theorem push_rl {M : Nat} {x y r r' : TValue} {b b' : Bool} (h : Rl (M + 1) x y) (hr : Rl M r r') (h3 : x.FKind ≠ 3) (h4 : x.FKind ≠ 4) (hb : x.FItems.l.length + 1 ≤ bB) :
  Rl (M + 1) (TValue.mk x.FKind x.FInt x.FText b (x.FItems.l ++ [r]) x.FKeys) (TValue.mk y.FKind y.FInt y.FText b' (y.FItems.l ++ [r']) y.FKeys) := by
 obtain ⟨a1, a2, a3, a4, a5, a6, a7, a8, a9⟩ := h
 exact ⟨a1, a2, a3, a4, a5, a6, by show (x.FItems.l ++ [r]).length ≤ bB; simpa using hb, fun h => (h.elim h3 h4).elim, a9.append (.cons hr .nil)⟩
def AtOk (N M : Nat) (d : TDoc) (n m : Nat) (lvl : Int) : Prop := ∀ (va : TValue) (li : Bool) (c : Int) (t t' : TRef) (v w : TValue), Rl (N + 1) va va → 0 ≤ c ∧ c ≤ 4096 → SOk t.FWraps → RefEq t t' → Rl N v w →
 OutA M d va li (coerce_coercer_at_qn n ⟨d, va, li, c⟩ t v lvl) (r12_work_coerce_qn m ⟨d, va, li, c, 0⟩ t' w lvl)
theorem list_stop (a1 : TRef) (a3 : Int) (k : R12_work → TRef → TValue → Int → Option (TValue × R12_work)) (l : List TValue) (w : R12_work) (x : TValue) (h : w.Ferr ≠ 0) : r12_work_list_q12 a1 a3 k l w x = some (w, x) := by
 cases l with
 | nil => rfl
 | cons a t => rw [r12_work_list_q12]; simp [h]
theorem list_loop {N M n m : Nat} {d : TDoc} {lvl : Int} (hat : AtOk N M d n m (lvl + 1)) (hlv : 0 ≤ lvl ∧ lvl ≤ 1000) {va : TValue} {li : Bool} {t t' : TRef} (hva : Rl (N + 1) va va) (ht : SOk t.FWraps) (he : RefEq t t') :
  ∀ (l l' : List TValue) (c : Int) (x y : TValue), All2 (Rl N) l l' → 0 ≤ c ∧ c ≤ 4096 → Rl (M + 1) x y → x.FKind ≠ 3 → x.FKind ≠ 4 → x.FItems.l.length + l.length ≤ bB →
   (∃ e c' k' x' y', e ≠ 0 ∧ coerce_coercer_list_q14 t lvl (coerce_coercer_at_qn n) l ⟨d, va, li, c⟩ x = some (Sum.inr (x', e, c')) ∧ r12_work_list_q12 t' lvl (r12_work_coerce_qn m) l' ⟨d, va, li, c, 0⟩ y = some (k', y') ∧ k'.Ferr = e) ∨
   (∃ c' x' y', 0 ≤ c' ∧ c' ≤ 4096 ∧ coerce_coercer_list_q14 t lvl (coerce_coercer_at_qn n) l ⟨d, va, li, c⟩ x = some (Sum.inl (⟨d, va, li, c'⟩, x')) ∧ r12_work_list_q12 t' lvl (r12_work_coerce_qn m) l' ⟨d, va, li, c, 0⟩ y = some (⟨d, va, li, c', 0⟩, y') ∧ Rl (M + 1) x' y') := by
 intro l l' c x y hl
 induction hl generalizing c x y with
 | nil => intro hc hx _ _ _; exact .inr ⟨c, x, y, hc.1, hc.2, rfl, rfl, hx⟩
 | @cons a b tl tl' hab htl ih =>
  intro hc hx h3 h4 hb
  simp only [List.length_cons] at hb
  have hby : y.FItems.l.length = x.FItems.l.length := hx.2.2.2.2.2.2.2.2.length.symm
  rw [coerce_coercer_list_q14, r12_work_list_q12]
  simp only [Ab.on, addC_ok (show -9223372036854775808 ≤ lvl + 1 ∧ lvl + 1 ≤ 9223372036854775807 by omega), Option.bind_some, decide_true, cond_true]
  have hax : ∀ r : TValue, appC 80 x.FItems (⟨false, [r]⟩ : Sl TValue) = some ⟨x.FItems.nl && [r].isEmpty, x.FItems.l ++ [r]⟩ := fun r => appC80 (by unfold bB at hb; simp; omega)
  have hay : ∀ r : TValue, appC 80 y.FItems (⟨false, [r]⟩ : Sl TValue) = some ⟨y.FItems.nl && [r].isEmpty, y.FItems.l ++ [r]⟩ := fun r => appC80 (by unfold bB at hb; simp; omega)
  rcases hat va li c t t' a b hva hc ht he hab with ⟨e, r, c', r', k', hne, p1, p2, p3⟩ | ⟨c', r, r', g1, g2, p1, p2, p3⟩
  ·left
   rw [p1, p2, Option.bind_some, Option.bind_some, hay, Option.bind_some, list_stop _ _ _ _ _ _ (by rw [p3]; exact hne)]
   exact ⟨e, c', k', _, _, hne, by simp [hne]; rfl, rfl, p3⟩
  ·rw [p1, p2, Option.bind_some, Option.bind_some, hax, hay, Option.bind_some, Option.bind_some]
   simp only [decide_true, Bool.not_true, cond_false]
   exact ih c' _ _ ⟨g1, g2⟩ (push_rl hx p3 h3 h4 (by omega)) h3 h4 (by show (x.FItems.l ++ [r]).length + _ ≤ bB; simp; omega)
theorem list_rel {N M n m : Nat} {d : TDoc} {lvl : Int} (hat : AtOk N M d n m (lvl + 1)) (hlv : 0 ≤ lvl ∧ lvl ≤ 1000) : ListOk N (M + 1) d (n + 1) (m + 1) lvl := by
 intro va li c t t' v w hva hc ht he hv
 have h0 : Rl (M + 1) (TValue.mk (5 : Int) (0 : Int) ([] : Bs) true ([]) (Sl.nil : Sl Bs)) (TValue.mk (5 : Int) (0 : Int) ([] : Bs) true ([]) (Sl.nil : Sl Bs)) :=
  ⟨rfl, ⟨rfl, by show _ ≤ (0 : Int); decide, by show (0 : Int) ≤ _; decide⟩, rfl, rfl, fun _ => rfl, by show 0 ≤ _; omega, by show 0 ≤ _; omega, fun h => (by rcases h with h | h <;> cases h), .nil⟩
 have main : ∀ (s s' : Sl TValue), All2 (Rl N) s.l s'.l → s.l.length ≤ bB → OutA (M + 1) d va li
   ((coerce_coercer_list_q14 t lvl (coerce_coercer_at_qn n) s.l ⟨d, va, li, c⟩ (TValue.mk (5 : Int) (0 : Int) ([] : Bs) true ([]) (Sl.nil : Sl Bs))).bind fun o14 => match o14 with | Sum.inl z14 => (on ((z14.1, z14.2)) fun z7 => some (z7.2, (0 : Int), z7.1)) | Sum.inr e14 => (some e14))
   ((r12_work_list_q12 t' lvl (r12_work_coerce_qn m) s'.l ⟨d, va, li, c, 0⟩ (TValue.mk (5 : Int) (0 : Int) ([] : Bs) true ([]) (Sl.nil : Sl Bs))).bind fun z12 => on ((z12.1, z12.2)) fun z7 => some (z7.2, z7.1)) := by
  intro s s' hs hb
  rcases list_loop hat hlv (li := li) hva ht he s.l s'.l c _ _ hs hc h0 (by decide) (by decide) (by show 0 + _ ≤ _; omega) with ⟨e, c', k', x', y', hne, p1, p2, p3⟩ | ⟨c', x', y', g1, g2, p1, p2, p3⟩
  ·rw [p1, p2]; exact .inl ⟨e, x', c', y', k', hne, rfl, rfl, p3⟩
  ·rw [p1, p2]; exact .inr ⟨c', x', y', g1, g2, rfl, rfl, p3⟩
 rw [coerce_coercer_list_qn, r12_work_list_qn]
 have hk : v.FKind = w.FKind := by cases N with | zero => exact hv.elim | succ N => exact hv.1
 rw [← hk]
 by_cases k5 : v.FKind = 5
 ·simp only [k5, decide_true, Bool.not_true, cond_false, cond_true]
  cases N with
  | zero => exact hv.elim
  | succ N => exact main v.FItems w.FItems (hv.2.2.2.2.2.2.2.2.imp fun _ _ h => h.mono (by omega)) hv.2.2.2.2.2.2.1
 ·simp only [k5, decide_false, Bool.not_false, cond_false, cond_true]
  exact main ⟨false, [v]⟩ ⟨false, [w]⟩ (.cons hv .nil) (by show 1 ≤ bB; unfold bB; omega)
end Go.Proofs

namespace Go.Proofs
open Go Go.Ab
def PlainOk (N M : Nat) (d : TDoc) (n m : Nat) (lvl : Int) : Prop := ∀ (va : TValue) (li : Bool) (c : Int) (x : TInput), 0 ≤ c ∧ c ≤ 4096 → InOk N x → x.FHas = true →
 OutA M d va li (Z11_qn n ⟨d, va, li, c⟩ x lvl) (Z66_qn m ⟨d, va, li, c, 0⟩ x.FType x.FDefault lvl)
theorem plain_rel {N M n m : Nat} {d : TDoc} {lvl : Int} (hat : AtOk N M d n m lvl) : PlainOk N M d (n + 1) (m + 1) lvl := by
 intro va li c x hc hx hh
 rw [Z11_qn, Z66_qn]
 rcases hat zv true c x.FType x.FType x.FDefault x.FDefault (zv_rl.mono (by omega)) hc hx.1 ⟨rfl, rfl⟩ (hx.2 hh) with ⟨e, r, c', r', k', hne, p1, p2, p3⟩ | ⟨c', r, r', g1, g2, p1, p2, p3⟩
 ·unfold zv at p1 p2
  rw [p1, p2]
  exact .inl ⟨e, r, _, r', _, hne, rfl, rfl, p3⟩
 ·unfold zv at p1 p2
  rw [p1, p2]
  exact .inr ⟨c', r, r', g1, g2, rfl, rfl, p3⟩
theorem keys_err (t : TDef) (l : List Bs) (w : R12_work) (h : w.Ferr = 22) : r12_work_object_q58 t l w = w := by
 induction l generalizing w with
 | nil => rfl
 | cons a r ih =>
  rw [r12_work_object_q58]
  have : Z63_q w 22 = w := by unfold Z63_q; rw [h]; rfl
  simp only [Ab.on, this]
  cases (!(Z54_q t.FInputs a).2) <;> exact ih w h
theorem keys_rel (d : TDoc) (va : TValue) (li : Bool) (c : Int) (t : TDef) (l : List Bs) :
  (coerce_coercer_object_q66 ⟨d, va, li, c⟩ t l = Sum.inr (zv, 22, ⟨d, va, li, c⟩) ∧ r12_work_object_q58 t l ⟨d, va, li, c, 0⟩ = ⟨d, va, li, c, 22⟩) ∨
  (coerce_coercer_object_q66 ⟨d, va, li, c⟩ t l = Sum.inl () ∧ r12_work_object_q58 t l ⟨d, va, li, c, 0⟩ = ⟨d, va, li, c, 0⟩) := by
 induction l with
 | nil => exact .inr ⟨rfl, rfl⟩
 | cons a r ih =>
  rw [coerce_coercer_object_q66, r12_work_object_q58]
  simp only [Ab.on, fail_new, r10_inputOf_eq, inputOf_eq]
  cases h : (fndI t.FInputs.l a).2 with
  | true => simpa using ih
  | false =>
   left
   simp only [Bool.not_false, cond_true]
   exact ⟨rfl, keys_err t r _ rfl⟩
end Go.Proofs

namespace Go.Proofs
open Go Go.Ab
theorem earlier_loop (a0 : Sl TInput) (i : Nat) (x : TInput) (hi : a0.l[i]? = some x) (hb : a0.l.length ≤ 1048576) : ∀ (k f : Nat) (s : Nat), s + k = i → k < f →
  Z60_l5 a0 (i : Int) f (s : Int) = some (((a0.l.take i).drop s).any fun y => y.FName == x.FName) := by
 have hil : i < a0.l.length := (List.getElem?_eq_some_iff.1 hi).1
 intro k
 induction k with
 | zero =>
  intro f s hs hf
  obtain ⟨f, rfl⟩ : ∃ g, f = g + 1 := ⟨f - 1, by omega⟩
  rw [Z60_l5, show decide ((s : Int) < (i : Int)) = false from decide_eq_false (by omega), cond_false, List.drop_of_length_le (by simp; omega)]; rfl
 | succ k ih =>
  intro f s hs hf
  obtain ⟨f, rfl⟩ : ∃ g, f = g + 1 := ⟨f - 1, by omega⟩
  have hsl : s < a0.l.length := by omega
  rw [Z60_l5, show decide ((s : Int) < (i : Int)) = true from decide_eq_true (by omega), cond_true]
  have e1 : idxC a0.l (s : Int) = some a0.l[s] := by unfold idxC; rw [if_pos (by omega), show ((s : Int).toNat) = s by omega, List.getElem?_eq_getElem hsl]
  have e2 : idxC a0.l (i : Int) = some x := by unfold idxC; rw [if_pos (by omega), show ((i : Int).toNat) = i by omega, hi]
  rw [e1, e2, Option.bind_some, Option.bind_some]
  have hd : (a0.l.take i).drop s = a0.l[s] :: (a0.l.take i).drop (s + 1) := by
   rw [List.drop_eq_getElem_cons (by simp; omega)]; simp
  rw [hd, List.any_cons, addC_ok (by omega), Option.bind_some]
  cases a0.l[s].FName == x.FName with
  | true => rfl
  | false => rw [cond_false, Bool.false_or]; exact ih f (s + 1) (by omega) (by omega)
theorem earlier_eq (a0 : Sl TInput) (i : Nat) (x : TInput) (hi : a0.l[i]? = some x) (hb : a0.l.length ≤ 1048576) : Z60_q a0 (i : Int) = some (fndI (a0.l.take i) x.FName).2 := by
 have hil : i < a0.l.length := (List.getElem?_eq_some_iff.1 hi).1
 unfold Z60_q Z60
 have := earlier_loop a0 i x hi hb i F0 0 (by omega) (by rw [F0_eq]; omega)
 rw [show ((0 : Int)) = ((0 : Nat) : Int) from rfl, this, List.drop_zero]
 unfold fndI
 congr 1
 cases h : (a0.l.take i).find? (fun t => t.FName == x.FName) with
 | none => rw [List.find?_eq_none] at h; rw [List.any_eq_false]; exact h
 | some t => exact List.any_eq_true.2 ⟨t, List.mem_of_find?_eq_some h, by simpa using List.find?_some h⟩
end Go.Proofs

namespace Go.Proofs
open Go Go.Ab
theorem pushK_rl {M : Nat} {x y r r' : TValue} {b b' k k' : Bool} {nm : Bs} (h : Rl (M + 1) x y) (hr : Rl M r r') (h3 : x.FKind ≠ 3) (h4 : x.FKind ≠ 4) (hb : x.FItems.l.length + 1 ≤ bB) (hkb : x.FKeys.l.length + 1 ≤ bB) (hk : k = false) :
  Rl (M + 1) (TValue.mk x.FKind x.FInt x.FText b (x.FItems.l ++ [r]) ⟨k, x.FKeys.l ++ [nm]⟩) (TValue.mk y.FKind y.FInt y.FText b' (y.FItems.l ++ [r']) ⟨k', y.FKeys.l ++ [nm]⟩) := by
 obtain ⟨a1, a2, a3, a4, a5, a6, a7, a8, a9⟩ := h
 exact ⟨a1, a2, a3, by show x.FKeys.l ++ [nm] = y.FKeys.l ++ [nm]; rw [a4], fun e => (by have e : k = true := e; rw [hk] at e; cases e), by show (x.FKeys.l ++ [nm]).length ≤ bB; simpa using hkb, by show (x.FItems.l ++ [r]).length ≤ bB; simpa using hb,
  fun h => (h.elim h3 h4).elim, a9.append (.cons hr .nil)⟩
def OutO (M : Nat) (d : TDoc) (va : TValue) (li : Bool) (p : Option (((Coerce_coercer × TValue)) ⊕ ((TValue × Int × Coerce_coercer)))) (q : Option (R12_work × TValue)) : Prop :=
 (∃ e c' k' x' y', e ≠ 0 ∧ p = some (Sum.inr (x', e, c')) ∧ q = some (k', y') ∧ k'.Ferr = e) ∨
 (∃ c' x' y', 0 ≤ c' ∧ c' ≤ 4096 ∧ p = some (Sum.inl (⟨d, va, li, c'⟩, x')) ∧ q = some (⟨d, va, li, c', 0⟩, y') ∧ Rl M x' y')
def finC (x22 : TValue) (nm : Bs) (rec : Coerce_coercer → TValue → Option (((Coerce_coercer × TValue)) ⊕ ((TValue × Int × Coerce_coercer)))) (e : Int) (c : Coerce_coercer) (z : TValue) : Option (((Coerce_coercer × TValue)) ⊕ ((TValue × Int × Coerce_coercer))) :=
 bif (!decide (e = (0 : Int))) then (some (Sum.inr (zv, e, c))) else ((appC 16 x22.FKeys (⟨false, [nm]⟩ : Sl Bs)).bind fun x50 => (appC 80 x22.FItems (⟨false, [z]⟩ : Sl TValue)).bind fun x51 => rec c (TValue.mk x22.FKind x22.FInt x22.FText x51.nl x51.l x50))
def finR (y21 : TValue) (nm : Bs) (w : R12_work) (z : TValue) : Option (R12_work × TValue) :=
 (appC 16 y21.FKeys (⟨false, [nm]⟩ : Sl Bs)).bind fun x42 => (appC 80 y21.FItems (⟨false, [z]⟩ : Sl TValue)).bind fun x43 => some (w, (TValue.mk y21.FKind y21.FInt y21.FText x43.nl x43.l x42))
theorem fin_rel {M : Nat} {d : TDoc} {va : TValue} {li : Bool} {x y : TValue} {nm : Bs} {rc : Coerce_coercer → TValue → Option (((Coerce_coercer × TValue)) ⊕ ((TValue × Int × Coerce_coercer)))} {rr : R12_work → TValue → Option (R12_work × TValue)}
  (hx : Rl (M + 1) x y) (h3 : x.FKind ≠ 3) (h4 : x.FKind ≠ 4) (hb : x.FItems.l.length + 1 ≤ bB) (hkb : x.FKeys.l.length + 1 ≤ bB)
  (hstop : ∀ w z, w.Ferr ≠ 0 → rr w z = some (w, z))
  (hrec : ∀ (c : Int) (x' y' : TValue), 0 ≤ c ∧ c ≤ 4096 → Rl (M + 1) x' y' → x'.FKind = x.FKind → x'.FItems.l.length = x.FItems.l.length + 1 → x'.FKeys.l.length = x.FKeys.l.length + 1 → OutO (M + 1) d va li (rc ⟨d, va, li, c⟩ x') (rr ⟨d, va, li, c, 0⟩ y'))
  {p : Option (TValue × Int × Coerce_coercer)} {q : Option (TValue × R12_work)} (h : OutA M d va li p q) :
  OutO (M + 1) d va li (p.bind fun r => finC x nm rc r.2.1 r.2.2 r.1) ((q.bind fun r => finR y nm r.2 r.1).bind fun z => rr z.1 z.2) := by
 have hby : y.FItems.l.length = x.FItems.l.length := hx.2.2.2.2.2.2.2.2.length.symm
 have hky : y.FKeys.l = x.FKeys.l := hx.2.2.2.1.symm
 have hax : ∀ r : TValue, appC 80 x.FItems (⟨false, [r]⟩ : Sl TValue) = some ⟨x.FItems.nl && [r].isEmpty, x.FItems.l ++ [r]⟩ := fun r => appC80 (by unfold bB at hb; simp; omega)
 have hay : ∀ r : TValue, appC 80 y.FItems (⟨false, [r]⟩ : Sl TValue) = some ⟨y.FItems.nl && [r].isEmpty, y.FItems.l ++ [r]⟩ := fun r => appC80 (by unfold bB at hb; simp; omega)
 have hkx : appC 16 x.FKeys (⟨false, [nm]⟩ : Sl Bs) = some ⟨x.FKeys.nl && [nm].isEmpty, x.FKeys.l ++ [nm]⟩ := appC_ok32 (by omega) (by unfold bB at hkb; simp; omega)
 have hkyy : appC 16 y.FKeys (⟨false, [nm]⟩ : Sl Bs) = some ⟨y.FKeys.nl && [nm].isEmpty, y.FKeys.l ++ [nm]⟩ := appC_ok32 (by omega) (by rw [hky]; unfold bB at hkb; simp; omega)
 rcases h with ⟨e, r, c', r', k', hne, p1, p2, p3⟩ | ⟨c', r, r', g1, g2, p1, p2, p3⟩
 ·left
  rw [p1, p2]
  unfold finC finR
  simp only [Option.bind_some, hkyy, hay]
  rw [hstop _ _ (by rw [p3]; exact hne)]
  exact ⟨e, c', k', zv, _, hne, by simp [hne], rfl, p3⟩
 ·rw [p1, p2]
  unfold finC finR
  simp only [Option.bind_some, hkyy, hay, hkx, hax, decide_true, Bool.not_true, cond_false]
  exact hrec c' _ _ ⟨g1, g2⟩ (pushK_rl hx p3 h3 h4 hb hkb (by simp)) rfl (by show (x.FItems.l ++ [r]).length = _; simp) (by show (x.FKeys.l ++ [nm]).length = _; simp)
theorem obj_stop (a1 : TDef) (a2 : TValue) (a3 : Int) (k k2 : R12_work → TRef → TValue → Int → Option (TValue × R12_work)) (l : List TInput) (i : Nat) (w : R12_work) (x : TValue) (h : w.Ferr ≠ 0) : r12_work_object_q18 a1 a2 a3 k k2 l i w x = some (w, x) := by
 cases l with
 | nil => rfl
 | cons a t => rw [r12_work_object_q18]; simp [h]
end Go.Proofs

namespace Go.Proofs
open Go Go.Ab
theorem objC_unfold (a1 : TDef) (a2 : TValue) (a3 : Int) (ka : Coerce_coercer → TRef → TValue → Int → Option (TValue × Int × Coerce_coercer)) (kpl : Coerce_coercer → TInput → Int → Option (TValue × Int × Coerce_coercer)) (h : TInput) (r : List TInput) (i : Nat) (c : Coerce_coercer) (x : TValue) :
  coerce_coercer_object_q18 a1 a2 a3 ka kpl (h :: r) i c x = bif (Z71_q (⟨a1.FInputs.nl, a1.FInputs.l.take i⟩ : Sl TInput) h.FName).2 then (coerce_coercer_object_q18 a1 a2 a3 ka kpl r (i + 1) c x) else
   ((Z91_q a2 h.FName).bind fun x39 => guardO (x39.2) (Z10_q c x39.1) false fun x53 =>
    bif (x39.2 && (!x53)) then ((addC a3 (1 : Int)).bind fun x55 => (ka c h.FType x39.1 x55).bind fun x56 => finC x h.FName (coerce_coercer_object_q18 a1 a2 a3 ka kpl r (i + 1)) x56.2.1 x56.2.2 x56.1)
    else (bif h.FHas then ((addC a3 (1 : Int)).bind fun x59 => (kpl c h x59).bind fun x60 => finC x h.FName (coerce_coercer_object_q18 a1 a2 a3 ka kpl r (i + 1)) x60.2.1 x60.2.2 x60.1)
    else (bif Z89_q h.FType then (finC x h.FName (coerce_coercer_object_q18 a1 a2 a3 ka kpl r (i + 1)) (22 : Int) c TValue.zero) else (coerce_coercer_object_q18 a1 a2 a3 ka kpl r (i + 1) c x)))) := by
 rw [coerce_coercer_object_q18]; rfl
theorem objR_unfold (a1 : TDef) (a2 : TValue) (a3 : Int) (kpl ka : R12_work → TRef → TValue → Int → Option (TValue × R12_work)) (h : TInput) (r : List TInput) (i : Nat) (w : R12_work) (x : TValue) (hw : w.Ferr = 0) :
  r12_work_object_q18 a1 a2 a3 kpl ka (h :: r) i w x = ((Z60_q a1.FInputs ((i : Nat) : Int)).bind fun x33 => Option.bind (bif x33 then (some (w, x)) else
   ((Z26_q a2 h.FName).bind fun x36 => guardO (x36.2) (Z64_q w x36.1) false fun x45 =>
    bif (x36.2 && (!x45)) then ((addC a3 (1 : Int)).bind fun x47 => (ka w h.FType x36.1 x47).bind fun x48 => finR x h.FName x48.2 x48.1)
    else (bif h.FHas then ((addC a3 (1 : Int)).bind fun x51 => (kpl w h.FType h.FDefault x51).bind fun x52 => finR x h.FName x52.2 x52.1)
    else (bif Z38_q h.FType then (finR x h.FName (Z63_q w (22 : Int)) TValue.zero) else (some (w, x)))))) fun z26 => r12_work_object_q18 a1 a2 a3 kpl ka r (i + 1) z26.1 z26.2) := by
 rw [r12_work_object_q18]
 simp only [hw, decide_true, cond_true]
 rfl
theorem obj_loop {N M n m : Nat} {d : TDoc} {lvl : Int} (hN : N + 1 ≤ 1099511627776) (hat : AtOk (N + 1) M d n m (lvl + 1)) (hpl : PlainOk (N + 1) M d n m (lvl + 1)) (hlv : 0 ≤ lvl ∧ lvl ≤ 1000) {va : TValue} {li : Bool} {t : TDef} {v w : TValue}
  (hva : Rl (N + 2) va va) (ht : DefOk (N + 1) t) (hv : Rl (N + 1) v w) :
  ∀ (l : List TInput) (i : Nat) (c : Int) (x y : TValue), t.FInputs.l.drop i = l → 0 ≤ c ∧ c ≤ 4096 → Rl (M + 1) x y → x.FKind = 6 → x.FItems.l.length + l.length ≤ 1048576 → x.FKeys.l.length + l.length ≤ 1048576 →
   OutO (M + 1) d va li (coerce_coercer_object_q18 t v lvl (coerce_coercer_at_qn n) (Z11_qn n) l i ⟨d, va, li, c⟩ x) (r12_work_object_q18 t w lvl (Z66_qn m) (r12_work_coerce_qn m) l i ⟨d, va, li, c, 0⟩ y) := by
 intro l
 induction l with
 | nil => intro i c x y _ hc hx _ _ _; exact .inr ⟨c, x, y, hc.1, hc.2, rfl, rfl, hx⟩
 | cons h r ih =>
  intro i c x y hd hc hx h6 hb hkb
  simp only [List.length_cons] at hb hkb
  have hil : i < t.FInputs.l.length := by
   rcases Nat.lt_or_ge i t.FInputs.l.length with c | c
   ·exact c
   ·rw [List.drop_of_length_le c] at hd; cases hd
  have hcons := List.drop_eq_getElem_cons hil
  rw [hd] at hcons
  simp only [List.cons.injEq] at hcons
  obtain ⟨hh, hr⟩ := hcons
  have hget : t.FInputs.l[i]? = some h := by rw [List.getElem?_eq_getElem hil, hh]
  have hin : InOk (N + 1) h := ht.2 h (List.mem_of_getElem? hget)
  have h3 : x.FKind ≠ 3 := by rw [h6]; decide
  have h4 : x.FKind ≠ 4 := by rw [h6]; decide
  rw [objC_unfold, objR_unfold _ _ _ _ _ _ _ _ _ _ rfl, earlier_eq t.FInputs i h hget ht.1, inputOf_eq, Option.bind_some]
  have skip := ih (i + 1) c x y hr.symm hc hx h6 (by omega) (by omega)
  have hrec : ∀ (c : Int) (x' y' : TValue), 0 ≤ c ∧ c ≤ 4096 → Rl (M + 1) x' y' → x'.FKind = x.FKind → x'.FItems.l.length = x.FItems.l.length + 1 → x'.FKeys.l.length = x.FKeys.l.length + 1 →
    OutO (M + 1) d va li (coerce_coercer_object_q18 t v lvl (coerce_coercer_at_qn n) (Z11_qn n) r (i + 1) ⟨d, va, li, c⟩ x') (r12_work_object_q18 t w lvl (Z66_qn m) (r12_work_coerce_qn m) r (i + 1) ⟨d, va, li, c, 0⟩ y') :=
   fun c x' y' h1 h2 h3 h4 h5 => ih (i + 1) c x' y' hr.symm h1 h2 (h3.trans h6) (by omega) (by omega)
  have fin : ∀ {p q}, OutA M d va li p q → _ := fun {p q} h1 => fin_rel (nm := h.FName) (rr := fun k z => r12_work_object_q18 t w lvl (Z66_qn m) (r12_work_coerce_qn m) r (i + 1) k z) (p := p) (q := q) hx h3 h4 (by unfold bB; omega) (by unfold bB; omega) (fun w z hw => obj_stop _ _ _ _ _ _ _ _ _ hw) hrec h1
  have hadd : addC lvl (1 : Int) = some (lvl + 1) := addC_ok (by omega)
  cases (fndI (t.FInputs.l.take i) h.FName).2 with
  | true => simp only [cond_true, Option.bind_some]; exact skip
  | false =>
   simp only [cond_false]
   obtain ⟨gx, gy, b, e1, e2, hbb⟩ := get_rl hv (by omega) h.FName
   rw [e1, e2, Option.bind_some, Option.bind_some]
   have rest : OutO (M + 1) d va li
     (bif h.FHas then ((addC lvl (1 : Int)).bind fun x59 => (Z11_qn n ⟨d, va, li, c⟩ h x59).bind fun x60 => finC x h.FName (coerce_coercer_object_q18 t v lvl (coerce_coercer_at_qn n) (Z11_qn n) r (i + 1)) x60.2.1 x60.2.2 x60.1)
      else (bif Z89_q h.FType then (finC x h.FName (coerce_coercer_object_q18 t v lvl (coerce_coercer_at_qn n) (Z11_qn n) r (i + 1)) (22 : Int) ⟨d, va, li, c⟩ TValue.zero) else (coerce_coercer_object_q18 t v lvl (coerce_coercer_at_qn n) (Z11_qn n) r (i + 1) ⟨d, va, li, c⟩ x)))
     (Option.bind (bif h.FHas then ((addC lvl (1 : Int)).bind fun x51 => (Z66_qn m ⟨d, va, li, c, 0⟩ h.FType h.FDefault x51).bind fun x52 => finR y h.FName x52.2 x52.1)
      else (bif Z38_q h.FType then (finR y h.FName (Z63_q ⟨d, va, li, c, 0⟩ (22 : Int)) TValue.zero) else (some (⟨d, va, li, c, 0⟩, y)))) fun z26 => r12_work_object_q18 t w lvl (Z66_qn m) (r12_work_coerce_qn m) r (i + 1) z26.1 z26.2) := by
    cases hh : h.FHas with
    | true =>
     simp only [cond_true, hadd, Option.bind_some]
     exact fin (hpl va li c h hc hin hh)
    | false =>
     simp only [cond_false]
     rw [isNonNull_eq, r05_isNonNull_eq]
     cases nnW h.FType.FWraps.l with
     | true =>
      simp only [cond_true, fail_new]
      exact fin (p := some (TValue.zero, 22, ⟨d, va, li, c⟩)) (q := some (TValue.zero, ⟨d, va, li, c, 22⟩)) (.inl ⟨22, _, _, _, _, by decide, rfl, rfl, rfl⟩)
     | false => simp only [cond_false, Option.bind_some]; exact skip
   rcases hbb with ⟨rfl, hg⟩ | ⟨rfl, hg1, hg2⟩
   ·obtain ⟨bm, m1, m2⟩ := missing_eq (n := N + 1) hva hN d li c hg
    simp only [guardO, if_true, m1, m2, Option.bind_some]
    cases bm with
    | true => simp only [Bool.not_true, Bool.and_false, cond_false]; exact rest
    | false =>
     simp only [Bool.not_false, Bool.and_true, cond_true, hadd, Option.bind_some]
     exact fin (hat va li c h.FType h.FType gx gy hva hc hin.1 ⟨rfl, rfl⟩ (hg.mono (by omega)))
   ·simp only [guardO, Bool.false_eq_true, if_false, Bool.false_and, cond_false]
    exact rest
end Go.Proofs

namespace Go.Proofs
open Go Go.Ab
theorem obj_rel {N M n m : Nat} {d : TDoc} {lvl : Int} (hN : N ≤ 1099511627776) (hat : AtOk N M d n m (lvl + 1)) (hpl : PlainOk N M d n m (lvl + 1)) (hlv : 0 ≤ lvl ∧ lvl ≤ 1000) : ObjOk N (M + 1) d (n + 1) (m + 1) lvl := by
 intro va li c t v w hva hc ht hv
 obtain ⟨N, rfl⟩ : ∃ N', N = N' + 1 := by cases N with | zero => exact hv.elim | succ N => exact ⟨N, rfl⟩
 have h0 : Rl (M + 1) (TValue.mk (6 : Int) (0 : Int) ([] : Bs) true ([]) (Sl.nil : Sl Bs)) (TValue.mk (6 : Int) (0 : Int) ([] : Bs) true ([]) (Sl.nil : Sl Bs)) :=
  ⟨rfl, ⟨rfl, by show _ ≤ (0 : Int); decide, by show (0 : Int) ≤ _; decide⟩, rfl, rfl, fun _ => rfl, by show 0 ≤ _; omega, by show 0 ≤ _; omega, fun h => (by rcases h with h | h <;> cases h), .nil⟩
 rw [coerce_coercer_object_qn, r12_work_object_qn, ← hv.1, ← hv.2.2.2.1]
 by_cases k6 : v.FKind = 6
 ·simp only [k6, decide_true, Bool.not_true, cond_false, Ab.on]
  rcases keys_rel d va li c t v.FKeys.l with ⟨e1, e2⟩ | ⟨e1, e2⟩
  ·rw [e1, e2]
   rw [obj_stop _ _ _ _ _ _ _ _ _ (by show (22 : Int) ≠ 0; decide)]
   exact .inl ⟨22, zv, _, _, _, by decide, rfl, rfl, rfl⟩
  ·rw [e1, e2]
   simp only
   rcases obj_loop hN hat hpl hlv (li := li) hva ht hv t.FInputs.l 0 c _ _ (by simp) hc h0 rfl (by show 0 + _ ≤ _; have := ht.1; omega) (by show 0 + _ ≤ _; have := ht.1; omega) with ⟨e, c', k', x', y', hne, p1, p2, p3⟩ | ⟨c', x', y', g1, g2, p1, p2, p3⟩
   ·rw [p1, p2]; exact .inl ⟨e, x', c', y', k', hne, rfl, rfl, p3⟩
   ·rw [p1, p2]; exact .inr ⟨c', x', y', g1, g2, rfl, rfl, p3⟩
 ·simp only [k6, decide_false, Bool.not_false, cond_true, Ab.on, fail_new]
  exact .inl ⟨23, _, _, _, _, by decide, rfl, rfl, rfl⟩
theorem at_step {N M n m : Nat} {d : TDoc} {lvl : Int} (hN : N + 1 ≤ 1099511627776) (hM : N ≤ M) (hM1 : 1 ≤ M) (hD : ∀ s, DefOk N (fnd d.FDefs.l s).1) (hlv : 0 ≤ lvl ∧ lvl ≤ 1000) (hl : lvl ≤ 24 → ListOk N M d n m lvl) (ho : lvl ≤ 24 → ObjOk N M d n m lvl) : AtOk N M d (n + 1) (m + 1) lvl := by
 intro va li c t t' v w hva hc ht he hv
 rw [at_unfold, co_unfold, r10_isInput_eq, ← he.1]
 cases hi : Z72_q d t.FName with
 | false => exact .inl ⟨10, zv, _, zv, _, by decide, rfl, rfl, rfl⟩
 | true =>
  have hk : v.FKind = w.FKind := by cases N with | zero => exact hv.elim | succ N => exact hv.1
  have htx : v.FText = w.FText := by cases N with | zero => exact hv.elim | succ N => exact hv.2.2.1
  have hb : (li && decide (w.FKind = 7)) = (decide (v.FKind = 7) && li) := by rw [hk, Bool.and_comm]
  simp only [Bool.not_true, cond_false, hb]
  cases hc7 : (decide (v.FKind = 7) && li) with
  | false => exact tail_rel hM hM1 hD hl ho hva hc ht he hk (fun _ => hv) hi
  | true =>
   simp only [cond_true]
   obtain ⟨gx, gy, b, e1, e2, hg⟩ := get_rl hva (by omega) v.FText
   rw [← htx, e1, e2, Option.bind_some, Option.bind_some]
   have hgk : gx.FKind = gy.FKind := by
    rcases hg with ⟨_, h⟩ | ⟨_, h1, h2⟩
    ·cases N with | zero => exact h.elim | succ N => exact h.1
    ·rw [h1, h2]
   simp only [← hgk]
   by_cases k0 : gx.FKind = 0
   ·simp only [k0, decide_true, Bool.not_true, cond_false]
    exact tail_rel hM hM1 hD hl ho hva hc ht he k0 (fun h => (h k0).elim) hi
   ·simp only [k0, decide_false, Bool.not_false, cond_true]
    have hr : Rl N gx gy := by
     rcases hg with ⟨_, h⟩ | ⟨_, h1, h2⟩
     ·exact h
     ·rw [h1] at k0; exact (k0 rfl).elim
    unfold Z13_q Z69_q
    rcases use_rel N hr F0 d va li c lvl (by rw [F0_eq]; omega) hc (by omega) with ⟨e, c', x, k', hne, p1, p2, p3⟩ | ⟨c', x, g1, g2, p1, p2, p3⟩
    ·rw [p1, p2]
     exact .inl ⟨e, zv, c', x, k', hne, by simp [hne], rfl, p3⟩
    ·rw [p1, p2]
     exact .inr ⟨c', gx, x, g1, g2, rfl, rfl, p3.mono hM⟩
theorem at_rel {N : Nat} {d : TDoc} (hN : N + 1 ≤ 1099511627776) (hD : ∀ s, DefOk N (fnd d.FDefs.l s).1) : ∀ (k : Nat) (lvl : Int), 1 ≤ lvl ∧ lvl ≤ 900 → 25 ≤ lvl + k → ∀ n m, 3 * k + 1 ≤ n → 3 * k + 1 ≤ m → AtOk N (N + k + 1) d n m lvl := by
 intro k
 induction k with
 | zero =>
  intro lvl hl hk n m hn hm va li c t t' v w hva hc ht he hv
  obtain ⟨n, rfl⟩ : ∃ x, n = x + 1 := ⟨n - 1, by omega⟩
  obtain ⟨m, rfl⟩ : ∃ x, m = x + 1 := ⟨m - 1, by omega⟩
  exact at_step hN (by omega) (by omega) hD (by omega) (fun h => by omega) (fun h => by omega) va li c t t' v w hva hc ht he hv
 | succ k ih =>
  intro lvl hl hk n m hn hm
  obtain ⟨n, rfl⟩ : ∃ x, n = x + 3 := ⟨n - 3, by omega⟩
  obtain ⟨m, rfl⟩ : ∃ x, m = x + 3 := ⟨m - 3, by omega⟩
  by_cases h24 : lvl ≤ 24
  ·have a1 : AtOk N (N + k + 1) d n m (lvl + 1) := ih (lvl + 1) (by omega) (by omega) n m (by omega) (by omega)
   have a2 : AtOk N (N + k + 1) d (n + 1) (m + 1) (lvl + 1) := ih (lvl + 1) (by omega) (by omega) _ _ (by omega) (by omega)
   exact at_step hN (by omega) (by omega) hD (by omega) (fun _ => list_rel a2 (by omega)) (fun _ => obj_rel (by omega) a2 (plain_rel a1) (by omega))
  ·exact at_step hN (by omega) (by omega) hD (by omega) (fun h => (h24 h).elim) (fun h => (h24 h).elim)
end Go.Proofs

namespace Go.Proofs
open Go Go.Ab
def OutF (M : Nat) (p q : Option (TValue × Int)) : Prop := ∃ x y e, p = some (x, e) ∧ q = some (y, e) ∧ Rl M x y
theorem done_rel {N M : Nat} (hM1 : 1 ≤ M) (hM : M ≤ 1099511627776) {d : TDoc} {va : TValue} {li : Bool} {p : Option (TValue × Int × Coerce_coercer)} {q : Option (TValue × R12_work)} (h : OutA M d va li p q) :
  OutF M (p.bind fun x => Z14_q x.1 x.2.1) (q.bind fun x => bif (!decide (x.2.Ferr = (0 : Int))) then some (zv, x.2.Ferr) else some (x.1, 0)) := by
 rcases h with ⟨e, r, c', r', k', hne, p1, p2, p3⟩ | ⟨c', r, r', g1, g2, p1, p2, p3⟩
 ·rw [p1, p2]
  refine ⟨zv, zv, e, ?_, ?_, zv_rl.mono hM1⟩
  ·unfold Z14_q; simp [hne]; rfl
  ·simp [p3, hne]
 ·rw [p1, p2]
  obtain ⟨x, e1, r1⟩ := copy_rl M p3 F0 (by rw [F0_eq]; omega)
  refine ⟨x, r', 0, ?_, by simp, r1⟩
  unfold Z14_q value_Copy_q
  simp [e1]
theorem run_rel {N : Nat} {d : TDoc} (hN : N + 1 ≤ 1099511627000) (hD : ∀ s, DefOk N (fnd d.FDefs.l s).1) {va : TValue} {li : Bool} {t : TRef} {v w : TValue} (hva : Rl (N + 1) va va) (ht : SOk t.FWraps) (hv : Rl N v w) :
  OutF (N + 25) ((coerce_coercer_at_q ⟨d, va, li, 0⟩ t v 1).bind fun x15 => (Z14_q x15.1 x15.2.1).bind fun x16 => some (x16.1, x16.2)) ((Z67_q ⟨d, va, li, 0, 0⟩ t w).bind fun x => some (x.1, x.2.1)) := by
 have h := at_rel (by omega) hD 24 1 (by omega) (by omega) F0 F0 (by rw [F0_eq]; omega) (by rw [F0_eq]; omega) va li 0 t t v w hva (by omega) ht ⟨rfl, rfl⟩ hv
 have h2 := done_rel (N := N) (by omega) (by omega) h
 unfold Z67_q coerce_coercer_at_q r12_work_coerce_q
 obtain ⟨x, y, e, e1, e2, e3⟩ := h2
 refine ⟨x, y, e, ?_, ?_, e3⟩
 ·rw [← e1]
  cases coerce_coercer_at_qn F0 ⟨d, va, li, 0⟩ t v 1 with
  | none => rfl
  | some a => simp only [Option.bind_some]; cases Z14_q a.1 a.2.1 <;> rfl
 ·rw [← e2]
  cases r12_work_coerce_qn F0 ⟨d, va, li, 0, 0⟩ t w 1 with
  | none => rfl
  | some a => simp only [Option.bind_some]; cases (!decide (a.2.Ferr = (0 : Int))) <;> rfl
theorem literal_rel {N : Nat} {d : TDoc} (hN : N + 1 ≤ 1099511627000) (hD : ∀ s, DefOk N (fnd d.FDefs.l s).1) {va : TValue} {t : TRef} {v w : TValue} (hva : Rl (N + 1) va va) (ht : SOk t.FWraps) (hv : Rl N v w) :
  OutF (N + 25) (Z2_q d t v va) (Z59_q d t w va) := by
 unfold Z2_q Z59_q
 obtain ⟨b, m1, m2⟩ := missing_eq hva (by omega) d true 0 hv
 have hrun := run_rel hN hD (li := true) hva ht hv
 simp only [Ab.on, m1, Option.bind_some, r10_isInput_eq]
 cases hi : Z72_q d t.FName with
 | false =>
  simp only [guardO, Bool.false_eq_true, if_false, Bool.false_and, cond_false, Bool.not_false, cond_true]
  cases b with
  | false => simp only [cond_false]; exact hrun
  | true =>
   simp only [cond_true]
   refine ⟨zv, zv, 10, rfl, ?_, zv_rl.mono (by omega)⟩
   unfold Z67_q r12_work_coerce_q
   rw [show F0 = 4611686018427387903 + 1 from rfl, co_unfold, r10_isInput_eq, hi]; rfl
 | true =>
  simp only [guardO, if_true, m2, Option.bind_some, Bool.true_and, Bool.not_true, cond_false]
  cases b with
  | false => simp only [cond_false]; exact hrun
  | true => simp only [cond_true]; exact ⟨zv, zv, 8, rfl, rfl, zv_rl.mono (by omega)⟩
end Go.Proofs

namespace Go.Proofs
open Go Go.Ab
theorem equal_keys (w : TValue) : ∀ (l : List Bs) (i : Nat), w.FKeys.l.drop i = l → Z34_q24 w l i = some (Sum.inl ()) := by
 intro l
 induction l with
 | nil => intro i _; rfl
 | cons a r ih =>
  intro i hd
  have hil : i < w.FKeys.l.length := by
   rcases Nat.lt_or_ge i w.FKeys.l.length with c | c
   ·exact c
   ·rw [List.drop_of_length_le c] at hd; cases hd
  have hcons := List.drop_eq_getElem_cons hil
  rw [hd] at hcons
  simp only [List.cons.injEq] at hcons
  rw [Z34_q24]
  simp only [Ab.on, List.getElem?_eq_getElem hil, Option.bind_some]
  rw [← hcons.1]
  simp only [beq_self_eq_true, Bool.not_true, cond_false]
  exact ih (i + 1) hcons.2.symm
theorem equal_rl : ∀ (n : Nat) {v w : TValue}, Rl n v w → ∀ m, n ≤ m → Z34_qn m v w = some true
 | 0, _, _, h, _, _ => h.elim
 | n + 1, v, w, ⟨h1, h2, h3, h4, h5, h6, h7, h8, h9⟩, m, hm => by
  obtain ⟨m, rfl⟩ : ∃ k, m = k + 1 := ⟨m - 1, by omega⟩
  have hitems : ∀ (l l' : List TValue) (i : Nat), All2 (Rl n) l l' → w.FItems.l.drop i = l' → Z34_q10 w (Z34_qn m) l i = some (Sum.inl ()) := by
   intro l l' i hl
   induction hl generalizing i with
   | nil => intro _; rfl
   | @cons a b t t' hab ht ih =>
    intro hd
    have hil : i < w.FItems.l.length := by
     rcases Nat.lt_or_ge i w.FItems.l.length with c | c
     ·exact c
     ·rw [List.drop_of_length_le c] at hd; cases hd
    have hcons := List.drop_eq_getElem_cons hil
    rw [hd] at hcons
    simp only [List.cons.injEq] at hcons
    rw [Z34_q10]
    simp only [Ab.on, List.getElem?_eq_getElem hil, Option.bind_some]
    rw [← hcons.1, equal_rl n hab m (by omega), Option.bind_some]
    simp only [Bool.not_true, cond_false]
    exact ih (i + 1) hcons.2.symm
  rw [Z34_qn]
  have hc : (((((!decide (v.FKind = w.FKind)) || (!decide (v.FInt = w.FInt))) || (!(v.FText == w.FText))) || (!decide (((v.FItems.l.length : Nat) : Int) = ((w.FItems.l.length : Nat) : Int)))) || (!decide (((v.FKeys.l.length : Nat) : Int) = ((w.FKeys.l.length : Nat) : Int)))) = false := by
   rw [h1, h2.1, h3, h4, h9.length]; simp
  rw [hc, cond_false, h4, equal_keys w w.FKeys.l 0 (by simp), Option.bind_some]
  simp only [Ab.on]
  rw [hitems v.FItems.l w.FItems.l 0 h9 (by simp)]; rfl
theorem equal_eq {n : Nat} {v w : TValue} (h : Rl n v w) (hn : n ≤ 1099511627776) : Z34_q v w = some true := equal_rl n h F0 (by rw [F0_eq]; omega)
end Go.Proofs

namespace Go.Proofs
open Go Go.Ab
theorem node_facts {v : TValue} {b : Bool} (h : Z31_q v b = some true) (hk : v.FKind = 3 ∨ v.FKind = 4) : v.FInt = 0 ∧ v.FItems.l = [] ∧ v.FKeys.l = [] := by
 unfold Z31_q at h
 rcases hk with hk | hk
 ·simp [hk, Ab.on] at h
  exact ⟨h.1.1, h.1.2, h.2⟩
 ·simp only [hk, show decide ((4 : Int) = 0) = false from rfl, show decide ((4 : Int) = 1) = false from rfl, show decide ((4 : Int) = 2) = false from rfl, show decide ((4 : Int) = 3) = false from rfl, decide_true, cond_false, cond_true, Ab.on] at h
  cases c : (((decide (v.FInt = (0 : Int))) && (decide (((v.FItems.l.length : Nat) : Int) = (0 : Int)))) && (decide (((v.FKeys.l.length : Nat) : Int) = (0 : Int)))) with
  | true => simp at c; exact ⟨c.1.1, c.1.2, c.2⟩
  | false => rw [c] at h; simp at h
theorem whole_rl (n : Nat) : ∀ (v : TValue) (b : Bool), Z33_qn n v b = some true → v.wf → v.sz ≤ 1048576 → Rl n v v := by
 induction n with
 | zero => intro v b h; cases h
 | succ n ih =>
  intro v b h hw hs
  rw [Z33_qn] at h
  cases e : Z31_q v b with
  | none => rw [e] at h; cases h
  | some x =>
   cases x with
   | false => rw [e] at h; cases h
   | true =>
    rw [e] at h
    simp only [Option.bind_some, Bool.not_true, cond_false, Ab.on] at h
    have hwf := (TValue.wf_iff v).1 hw
    have hsz := v.sz_def
    have hl : ∀ l : List TValue, Z33_q11 b (Z33_qn n) l = some (Sum.inl ()) → ∀ x ∈ l, Z33_qn n x b = some true := by
     intro l
     induction l with
     | nil => intro _ x hx; cases hx
     | cons a r ihl =>
      intro h
      rw [Z33_q11] at h
      simp only [Ab.on] at h
      cases e : Z33_qn n a b with
      | none => simp [e] at h
      | some y =>
       cases y with
       | false => simp [e] at h
       | true =>
        simp only [e, Option.bind_some, Bool.not_true, cond_false] at h
        intro x hx
        rcases List.mem_cons.1 hx with rfl | hx
        ·exact e
        ·exact ihl h x hx
    have hitems : ∀ x ∈ v.FItems.l, Z33_qn n x b = some true := by
     cases e2 : Z33_q24 b v.FKeys.l with
     | inr y => rw [e2] at h; simp only [Option.some.injEq] at h; subst h; exact absurd e2 (by
       intro e2
       have : ∀ l : List Bs, Z33_q24 b l ≠ Sum.inr true := by
        intro l
        induction l with
        | nil => intro h; cases h
        | cons a r ihl =>
         rw [Z33_q24]; simp only [Ab.on]
         cases (b && !(bif b then Z21_q (bif b then a else []) else false)) with
         | true => intro h; cases h
         | false => exact ihl
       exact this _ e2)
     | inl _ =>
      rw [e2] at h
      simp only at h
      cases e3 : Z33_q11 b (Z33_qn n) v.FItems.l with
      | none => rw [e3] at h; cases h
      | some z =>
       cases z with
       | inl _ => exact hl _ e3
       | inr y =>
        rw [e3] at h
        simp only [Option.bind_some, Option.some.injEq] at h
        subst h
        have : ∀ l : List TValue, Z33_q11 b (Z33_qn n) l ≠ some (Sum.inr true) := by
         intro l
         induction l with
         | nil => intro h; cases h
         | cons a r ihl =>
          rw [Z33_q11]; simp only [Ab.on]
          cases Z33_qn n a b with
          | none => intro h; cases h
          | some y =>
           cases y with
           | false => intro h; cases h
           | true => exact ihl
        exact (this _ e3).elim
    have hiL := Sl.len_le (f := TValue.sz) v.FItems (fun x => by have := x.sz_def; omega)
    have hkL := Sl.len_le (f := Bs.sz) v.FKeys (fun x => Bs.sz_pos x)
    have self : ∀ l : List TValue, (∀ x ∈ l, Rl n x x) → All2 (Rl n) l l := by
     intro l
     induction l with
     | nil => intro _; exact .nil
     | cons a r ihl => intro h; exact .cons (h a (by simp)) (ihl fun x hx => h x (by simp [hx]))
    refine ⟨rfl, ⟨rfl, hwf.2.1⟩, rfl, rfl, hwf.2.2.2.2.1.1, by unfold bB; omega, by unfold bB; omega, node_facts e, self _ fun x hx => ih x b (hitems x hx) ?_ ?_⟩
    ·exact hwf.2.2.2.1.2.2 x hx
    ·have := Sl.mem_le (f := TValue.sz) hx; omega
end Go.Proofs
