import Derived.Test.YtimiconoebjfbaaGreatDoorV13
set_option maxRecDepth 100000
set_option maxHeartbeats 2000000
set_option linter.unusedVariables false
set_option linter.unusedSimpArgs false
namespace Go.Proofs
open Go Go.Ab
def coerce_coercer_list_q14 (a1:TRef) (a3:Int) (k_rec_90:Coerce_coercer->TRef->TValue->Int->Option (TValue×Int×Coerce_coercer)):List TValue->Coerce_coercer->TValue->Option (((Coerce_coercer×TValue)) ⊕ ((TValue×Int×Coerce_coercer)))
 | [],y16_c0,y18_l1=>some (Sum.inl (y16_c0,y18_l1))
 | h14::r14,y16_c0,y18_l1=>on (h14) fun x24=>(addC a3 (1:Int)).bind fun x26=>(k_rec_90 y16_c0 a1 x24 x26).bind fun x27=>bif (!decide (x27.2.1=(0:Int))) then(some (Sum.inr ((TValue.mk (0:Int) (0:Int) ([]:Bs) true ([]) (Sl.nil:Sl Bs)),x27.2.1,x27.2.2))) else((appC 80 y18_l1.FItems (⟨false,[x27.1]⟩:Sl TValue)).bind fun x32=>coerce_coercer_list_q14 a1 a3 k_rec_90 (r14) x27.2.2 (TValue.mk y18_l1.FKind y18_l1.FInt y18_l1.FText x32.nl x32.l y18_l1.FKeys))
theorem coerce_coercer_list_l14_qe {a1:TRef}{a3:Int}{s10_4:(Sl TValue)}{k_rec_90:Coerce_coercer->TRef->TValue->Int->Option (TValue×Int×Coerce_coercer)}  (Kb14:(((Coerce_coercer×TValue)) ⊕ ((TValue×Int×Coerce_coercer)))->Option (TValue×Int×Coerce_coercer)) (hend:∀(n14:Nat) (s26_15:Nat) (y16_c0:Coerce_coercer) (y17_l0:TValue) (y18_l1:TValue),coerce_coercer_list_j7   y16_c0 y17_l0 y18_l1=Kb14 (Sum.inl (y16_c0,y18_l1))) (hret:∀e:(TValue×Int×Coerce_coercer),some e=Kb14 (Sum.inr e)):∀(n14:Nat) (s26_15:Nat) (y16_c0:Coerce_coercer) (y17_l0:TValue) (y18_l1:TValue),(0<n14/\s10_4.l.length<s26_15+n14)->coerce_coercer_list_l14 a1 a3 s10_4 k_rec_90 n14 s26_15 y16_c0 y17_l0 y18_l1=Option.bind (coerce_coercer_list_q14 a1 a3 k_rec_90 (s10_4.l.drop s26_15) y16_c0 y18_l1) Kb14:=by
 intro n14;induction n14 with
 | zero=>intro s26_15 y16_c0 y17_l0 y18_l1 hn; exact absurd hn.1 (by omega)
 | succ n14 ih14 =>
  intro s26_15 y16_c0 y17_l0 y18_l1 hn;rw [coerce_coercer_list_l14];by_cases hlt:s26_15<s10_4.l.length
  ·obtain⟨h14,hh14⟩:∃x,s10_4.l[s26_15]?=some x:=⟨_,List.getElem?_eq_getElem hlt⟩;rw [Q.drop_of hh14,coerce_coercer_list_q14];refine Q.condT (Q.ltT hlt) ?_;refine Q.bindPO hh14 fun x24 hx_x24=>?_;refine Q.bindO rfl fun x26=>?_;refine Q.bindO rfl fun x27=>?_;refine Q.condO ?_ ?_
   ·all_goals exact hret _
   refine Q.bindO rfl fun x32=>?_;all_goals exact ih14 _ _ _ _ ⟨by omega,by omega⟩
  rw [List.drop_of_length_le (by omega),coerce_coercer_list_q14];refine Q.condF (Q.ltF hlt) ?_;exact hend n14 s26_15 y16_c0 y17_l0 y18_l1
def coerce_coercer_object_q66 (a0:Coerce_coercer) (a1:TDef):List Bs->Unit ⊕ ((TValue×Int×Coerce_coercer))
 | []=>Sum.inl ()
 | h66::r66=>on (h66) fun x74=>on (Z93_q a1.FInputs x74) fun x76=>bif (!x76.2) then(Sum.inr ((TValue.mk (0:Int) (0:Int) ([]:Bs) true ([]) (Sl.nil:Sl Bs)),(22:Int),a0)) else(coerce_coercer_object_q66 a0 a1 (r66) )
theorem coerce_coercer_object_l66_qe {a0:Coerce_coercer}{a1:TDef}{a2:TValue}{a3:Int}{k_rec_137:Coerce_coercer->TInput->Int->Option (TValue×Int×Coerce_coercer)}{k_rec_90:Coerce_coercer->TRef->TValue->Int->Option (TValue×Int×Coerce_coercer)}  (Kb66:(Unit ⊕ ((TValue×Int×Coerce_coercer)))->Option (TValue×Int×Coerce_coercer)) (hend:∀(n66:Nat) (s30_67:Nat) (y68_l0:TValue),coerce_coercer_object_j6 a0 a1 a2 a3 k_rec_137 k_rec_90 y68_l0=Kb66 (Sum.inl ())) (hret:∀e:(TValue×Int×Coerce_coercer),some e=Kb66 (Sum.inr e)):∀(n66:Nat) (s30_67:Nat) (y68_l0:TValue),(0<n66/\a2.FKeys.l.length<s30_67+n66)->coerce_coercer_object_l66 a0 a1 a2 a3 k_rec_137 k_rec_90 n66 s30_67 y68_l0=Kb66 (coerce_coercer_object_q66 a0 a1 (a2.FKeys.l.drop s30_67) ):=by
 intro n66;induction n66 with
 | zero=>intro s30_67 y68_l0 hn; exact absurd hn.1 (by omega)
 | succ n66 ih66 =>
  intro s30_67 y68_l0 hn;rw [coerce_coercer_object_l66];by_cases hlt:s30_67<a2.FKeys.l.length
  ·obtain⟨h66,hh66⟩:∃x,a2.FKeys.l[s30_67]?=some x:=⟨_,List.getElem?_eq_getElem hlt⟩;rw [Q.drop_of hh66,coerce_coercer_object_q66];refine Q.condT (Q.ltT hlt) ?_;refine Q.bindP hh66 fun x74 hx_x74=>?_;refine Q.bindP (Z93_eq _ _) fun x76 hx_x76=>?_;refine Q.condP ?_ ?_
   ·all_goals exact hret _
   all_goals exact ih66 _ _ ⟨by omega,by omega⟩
  rw [List.drop_of_length_le (by omega),coerce_coercer_object_q66];refine Q.condF (Q.ltF hlt) ?_;exact hend n66 s30_67 y68_l0
def coerce_coercer_object_q18 (a1:TDef) (a2:TValue) (a3:Int) (k_rec_137:Coerce_coercer->TInput->Int->Option (TValue×Int×Coerce_coercer)) (k_rec_90:Coerce_coercer->TRef->TValue->Int->Option (TValue×Int×Coerce_coercer)):List TInput->Nat->Coerce_coercer->TValue->Option (((Coerce_coercer×TValue)) ⊕ ((TValue×Int×Coerce_coercer)))
 | [],s49_19,y20_c0,y22_l1=>some (Sum.inl (y20_c0,y22_l1))
 | h18::r18,s49_19,y20_c0,y22_l1=>on (h18) fun x31=>on ((⟨a1.FInputs.nl,a1.FInputs.l.take s49_19⟩:Sl TInput)) fun x34=>on (Z93_q x34 x31.FName) fun x35=>on (fun(y27_c0:Coerce_coercer) (y29_l1:TValue)=>coerce_coercer_object_q18 a1 a2 a3 k_rec_137 k_rec_90 (r18) (s49_19+1) y27_c0 y29_l1) fun kj26=>bif x35.2 then(kj26 y20_c0 y22_l1) else((Z123_q a2 x31.FName).bind fun x39=>guardO (x39.2) (Z4_q y20_c0 x39.1) false fun x53=>on (fun(s22_43:Int) (y44_c0:Coerce_coercer) (y45_l2:TValue)=>bif (!decide (s22_43=(0:Int))) then(some (Sum.inr ((TValue.mk (0:Int) (0:Int) ([]:Bs) true ([]) (Sl.nil:Sl Bs)),s22_43,y44_c0))) else((appC 16 y22_l1.FKeys (⟨false,[x31.FName]⟩:Sl Bs)).bind fun x50=>(appC 80 y22_l1.FItems (⟨false,[y45_l2]⟩:Sl TValue)).bind fun x51=>kj26 y44_c0 (TValue.mk y22_l1.FKind y22_l1.FInt y22_l1.FText x51.nl x51.l x50))) fun kj42=>bif (x39.2&&(!x53)) then((addC a3 (1:Int)).bind fun x55=>(k_rec_90 y20_c0 x31.FType x39.1 x55).bind fun x56=>kj42 x56.2.1 x56.2.2 x56.1) else(bif x31.FHas then((addC a3 (1:Int)).bind fun x59=>(k_rec_137 y20_c0 x31 x59).bind fun x60=>kj42 x60.2.1 x60.2.2 x60.1) else(on (Z114_q x31.FType) fun x62=>bif x62 then(kj42 (22:Int) y20_c0 TValue.zero) else(kj26 y20_c0 y22_l1))))
theorem coerce_coercer_object_l18_qe {a1:TDef}{a2:TValue}{a3:Int}{k_rec_137:Coerce_coercer->TInput->Int->Option (TValue×Int×Coerce_coercer)}{k_rec_90:Coerce_coercer->TRef->TValue->Int->Option (TValue×Int×Coerce_coercer)}  (Kb18:(((Coerce_coercer×TValue)) ⊕ ((TValue×Int×Coerce_coercer)))->Option (TValue×Int×Coerce_coercer)) (hend:∀(n18:Nat) (s49_19:Nat) (y20_c0:Coerce_coercer) (y21_l0:TValue) (y22_l1:TValue),coerce_coercer_object_j11   y20_c0 y21_l0 y22_l1=Kb18 (Sum.inl (y20_c0,y22_l1))) (hret:∀e:(TValue×Int×Coerce_coercer),some e=Kb18 (Sum.inr e)):∀(n18:Nat) (s49_19:Nat) (y20_c0:Coerce_coercer) (y21_l0:TValue) (y22_l1:TValue),(0<n18/\a1.FInputs.l.length<s49_19+n18)->coerce_coercer_object_l18 a1 a2 a3 k_rec_137 k_rec_90 n18 s49_19 y20_c0 y21_l0 y22_l1=Option.bind (coerce_coercer_object_q18 a1 a2 a3 k_rec_137 k_rec_90 (a1.FInputs.l.drop s49_19) s49_19 y20_c0 y22_l1) Kb18:=by
 intro n18;induction n18 with
 | zero=>intro s49_19 y20_c0 y21_l0 y22_l1 hn; exact absurd hn.1 (by omega)
 | succ n18 ih18 =>
  intro s49_19 y20_c0 y21_l0 y22_l1 hn;rw [coerce_coercer_object_l18];by_cases hlt:s49_19<a1.FInputs.l.length
  ·obtain⟨h18,hh18⟩:∃x,a1.FInputs.l[s49_19]?=some x:=⟨_,List.getElem?_eq_getElem hlt⟩;rw [Q.drop_of hh18,coerce_coercer_object_q18];refine Q.condT (Q.ltT hlt) ?_;refine Q.bindPO hh18 fun x31 hx_x31=>?_;refine Q.bindPO (Q.partC_take (by omega)) fun x34 hx_x34=>?_;refine Q.bindPO (Z93_eq _ _) fun x35 hx_x35=>?_;refine Q.mixO fun kj26 hkj26=>?_;have hj26:∀(y27_c0:Coerce_coercer) (y28_l0:TValue) (y29_l1:TValue),coerce_coercer_object_j26 s49_19 (coerce_coercer_object_l18 a1 a2 a3 k_rec_137 k_rec_90 n18) y27_c0 y28_l0 y29_l1=Option.bind (kj26 y27_c0 y29_l1) Kb18:=by
    intro y27_c0 y28_l0 y29_l1;unfold coerce_coercer_object_j26;rw [hkj26];try dsimp only
    all_goals exact ih18 _ _ _ _ ⟨by omega,by omega⟩
   refine Q.condO ?_ ?_
   ·all_goals exact hj26 _ _ _
   refine Q.bindO (Z123_eq _ _) fun x39=>?_;refine Q.guardOO (Z4_eq _ _) fun x53=>?_;refine Q.mixO fun kj42 hkj42=>?_;have hj42:∀(s22_43:Int) (y44_c0:Coerce_coercer) (y45_l2:TValue),coerce_coercer_object_j42 s49_19 y21_l0 y22_l1 x31 (coerce_coercer_object_l18 a1 a2 a3 k_rec_137 k_rec_90 n18) s22_43 y44_c0 y45_l2=Option.bind (kj42 s22_43 y44_c0 y45_l2) Kb18:=by
    intro s22_43 y44_c0 y45_l2;unfold coerce_coercer_object_j42;rw [hkj42];try dsimp only
    refine Q.condO ?_ ?_
    ·all_goals exact hret _
    refine Q.bindO rfl fun x50=>?_;refine Q.bindO rfl fun x51=>?_;all_goals exact hj26 _ _ _
   refine Q.condO ?_ ?_
   ·refine Q.bindO rfl fun x55=>?_;refine Q.bindO rfl fun x56=>?_;all_goals exact hj42 _ _ _
   refine Q.condO ?_ ?_
   ·refine Q.bindO rfl fun x59=>?_;refine Q.bindO rfl fun x60=>?_;all_goals exact hj42 _ _ _
   refine Q.bindPO (Z114_eq _) fun x62 hx_x62=>?_;refine Q.condO ?_ ?_
   ·all_goals exact hj42 _ _ _
   all_goals exact hj26 _ _ _
  rw [List.drop_of_length_le (by omega),coerce_coercer_object_q18];refine Q.condF (Q.ltF hlt) ?_;exact hend n18 s49_19 y20_c0 y21_l0 y22_l1
mutual
def coerce_coercer_at_qn:Nat->Coerce_coercer->TRef->TValue->Int->Option (TValue×Int×Coerce_coercer)
 | 0,_,_,_,_=>none
 | n+1,a0,a1,a2,a3=>on (Z94_q a0.Fd a1.FName) fun x4=>bif (!x4) then(some ((TValue.mk (0:Int) (0:Int) ([]:Bs) true ([]) (Sl.nil:Sl Bs)),(10:Int),a0)) else(on (fun(y8_c0:Coerce_coercer) (y9_l0:TValue)=>(Z1_q y8_c0 a3).bind fun x13=>bif (!decide (x13.1=(0:Int))) then(some ((TValue.mk (0:Int) (0:Int) ([]:Bs) true ([]) (Sl.nil:Sl Bs)),x13.1,x13.2)) else(bif (decide (y9_l0.FKind=(0:Int))) then(on (Z114_q a1) fun x22=>bif x22 then(some ((TValue.mk (0:Int) (0:Int) ([]:Bs) true ([]) (Sl.nil:Sl Bs)),(23:Int),x13.2)) else(some ((TValue.mk (0:Int) (0:Int) ([]:Bs) true ([]) (Sl.nil:Sl Bs)),(0:Int),x13.2))) else((Z112_q a1).bind fun x28=>bif x28.2 then(((coerce_coercer_list_qn n) x13.2 x28.1 y9_l0 a3).bind fun x32=>some (x32.1,x32.2.1,x32.2.2)) else(on (Z92_q x13.2.Fd a1.FName) fun x35=>on (bif x35.2 then Z97_q a1.FName else false) fun x37=>bif ((x35.2&&(!x37))&&(decide (x35.1.FKind=(5:Int)))) then(((coerce_coercer_object_qn n) x13.2 x35.1 y9_l0 a3).bind fun x40=>some (x40.1,x40.2.1,x40.2.2)) else((Z2_q x13.2 a1.FName y9_l0).bind fun x42=>some (x42.1,x42.2,x13.2)))))) fun kj7=>bif ((decide (a2.FKind=(7:Int)))&&a0.Fliteral) then((Z123_q a0.Fvars a2.FText).bind fun x46=>bif (!decide (x46.1.FKind=(0:Int))) then((Z7_q a0 x46.1 a3).bind fun x50=>bif (!decide (x50.1=(0:Int))) then(some ((TValue.mk (0:Int) (0:Int) ([]:Bs) true ([]) (Sl.nil:Sl Bs)),x50.1,x50.2)) else(some (x46.1,(0:Int),x50.2))) else(kj7 a0 x46.1)) else(kj7 a0 a2))
def coerce_coercer_list_qn:Nat->Coerce_coercer->TRef->TValue->Int->Option (TValue×Int×Coerce_coercer)
 | 0,_,_,_,_=>none
 | n+1,a0,a1,a2,a3=>on (bif (!decide (a2.FKind=(5:Int))) then((⟨false,[a2]⟩:Sl TValue)) else(a2.FItems)) fun s10_4=>Option.bind (coerce_coercer_list_q14 a1 a3 (coerce_coercer_at_qn n) s10_4.l a0 (TValue.mk (5:Int) (0:Int) ([]:Bs) true ([]) (Sl.nil:Sl Bs))) fun o14=>match o14 with|Sum.inl z14=>(on ((z14.1,z14.2)) fun z7=>some (z7.2,(0:Int),z7.1))|Sum.inr e14=>(some e14)
def coerce_coercer_object_qn:Nat->Coerce_coercer->TDef->TValue->Int->Option (TValue×Int×Coerce_coercer)
 | 0,_,_,_,_=>none
 | n+1,a0,a1,a2,a3=>bif (!decide (a2.FKind=(6:Int))) then(some ((TValue.mk (0:Int) (0:Int) ([]:Bs) true ([]) (Sl.nil:Sl Bs)),(23:Int),a0)) else(on (coerce_coercer_object_q66 a0 a1 a2.FKeys.l ) fun o66=>match o66 with|Sum.inl _=>(on (()) fun _=>Option.bind (coerce_coercer_object_q18 a1 a2 a3 (Z5_qn n) (coerce_coercer_at_qn n) a1.FInputs.l 0 a0 (TValue.mk (6:Int) (0:Int) ([]:Bs) true ([]) (Sl.nil:Sl Bs))) fun o18=>match o18 with|Sum.inl z18=>(on ((z18.1,z18.2)) fun z11=>some (z11.2,(0:Int),z11.1))|Sum.inr e18=>(some e18))|Sum.inr e66=>(some e66))
def Z5_qn:Nat->Coerce_coercer->TInput->Int->Option (TValue×Int×Coerce_coercer)
 | 0,_,_,_=>none
 | n+1,a0,a1,a2=>((coerce_coercer_at_qn n) (Coerce_coercer.mk a0.Fd (TValue.mk (0:Int) (0:Int) ([]:Bs) true ([]) (Sl.nil:Sl Bs)) true a0.Fnodes) a1.FType a1.FDefault a2).bind fun x5=>on (Z6_q a0.Fvars a0.Fliteral x5.2.2) fun x6=>some (x5.1,x5.2.1,x6)
end
theorem coerce_coercer_at_qall:∀n:Nat,coerce_coercer_at_n n=coerce_coercer_at_qn n/\coerce_coercer_list_n n=coerce_coercer_list_qn n/\coerce_coercer_object_n n=coerce_coercer_object_qn n/\Z5_n n=Z5_qn n:=by
 intro n;induction n with
 | zero=>exact⟨(by funext a0 a1 a2 a3; first|rfl|(rw [coerce_coercer_at_n,coerce_coercer_at_qn])),(by funext a0 a1 a2 a3; first|rfl|(rw [coerce_coercer_list_n,coerce_coercer_list_qn])),(by funext a0 a1 a2 a3; first|rfl|(rw [coerce_coercer_object_n,coerce_coercer_object_qn])),(by funext a0 a1 a2; first|rfl|(rw [Z5_n,Z5_qn]))⟩
 | succ n ih =>
  refine⟨?_, ?_, ?_, ?_⟩
  ·funext a0 a1 a2 a3
   refine Eq.trans ?_ (Q.some_bind _);rw [coerce_coercer_at_n,coerce_coercer_at_qn];try rw [ih.1]
   try rw [ih.2.1]
   try rw [ih.2.2.1]
   try rw [ih.2.2.2]
   refine Q.bindPO (Z94_eq _ _) fun x4 hx_x4=>?_;refine Q.condO ?_ ?_
   ·all_goals rfl
   refine Q.mixO fun kj7 hkj7=>?_;have hj7:∀(y8_c0:Coerce_coercer) (y9_l0:TValue) (y10_l1:TValue),coerce_coercer_at_j7 a1 a3 (coerce_coercer_list_qn n) (coerce_coercer_object_qn n) y8_c0 y9_l0 y10_l1=Option.bind (kj7 y8_c0 y9_l0) some:=by
    intro y8_c0 y9_l0 y10_l1;unfold coerce_coercer_at_j7;rw [hkj7];try dsimp only
    refine Q.bindO (Z1_eq _ _) fun x13=>?_;refine Q.condO ?_ ?_
    ·all_goals rfl
    refine Q.condO ?_ ?_
    ·refine Q.bindPO (Z114_eq _) fun x22 hx_x22=>?_;refine Q.condO ?_ ?_
     ·all_goals rfl
     all_goals rfl
    refine Q.bindO (Z112_eq _) fun x28=>?_;refine Q.condO ?_ ?_
    ·refine Q.bindO rfl fun x32=>?_;all_goals rfl
    refine Q.bindPO (Z92_eq _ _) fun x35 hx_x35=>?_;refine Q.guardPO (Z97_eq _) fun x37 hx_x37=>?_;refine Q.condO ?_ ?_
    ·refine Q.bindO rfl fun x40=>?_;all_goals rfl
    refine Q.bindO (Z2_eq _ _ _) fun x42=>?_;all_goals rfl
   refine Q.condO ?_ ?_
   ·refine Q.bindO (Z123_eq _ _) fun x46=>?_;refine Q.condO ?_ ?_
    ·refine Q.bindO (Z7_eq _ _ _) fun x50=>?_;refine Q.condO ?_ ?_
     ·all_goals rfl
     all_goals rfl
    all_goals exact hj7 _ _ _
   all_goals exact hj7 _ _ _
  ·funext a0 a1 a2 a3
   refine Eq.trans ?_ (Q.some_bind _);rw [coerce_coercer_list_n,coerce_coercer_list_qn];try rw [ih.1]
   try rw [ih.2.1]
   try rw [ih.2.2.1]
   try rw [ih.2.2.2]
   refine Q.wrapPO fun Kj3 hKj3=>?_;have hj3:∀(s10_4:(Sl TValue)),coerce_coercer_list_j3 a0 a1 a3 (coerce_coercer_at_qn n) s10_4=Kj3 s10_4:=by
    intro s10_4;refine Eq.trans ?_ (hKj3 _).symm;unfold coerce_coercer_list_j3;refine Q.wrapOO fun Kb14 hKb14=>?_;refine coerce_coercer_list_l14_qe  Kb14 ?_ ?_ _ _ _ _ _ ⟨Nat.succ_pos _,by omega⟩
    ·intro n14 s26_15 y16_c0 y17_l0 y18_l1;refine Eq.trans ?_ (hKb14 _).symm;try dsimp only
     refine Q.wrapPO fun Kj7 hKj7=>?_;have hj7:∀(y8_c0:Coerce_coercer) (y9_l0:TValue) (y10_l1:TValue),coerce_coercer_list_j7  y8_c0 y9_l0 y10_l1=Kj7 (y8_c0,y10_l1):=by
      intro y8_c0 y9_l0 y10_l1;refine Eq.trans ?_ (hKj7 _).symm;try dsimp only
      unfold coerce_coercer_list_j7;all_goals rfl
     all_goals exact hj7 _ _ _
    intro e14;refine Eq.trans ?_ (hKb14 _).symm;try dsimp only
    all_goals rfl
   refine Q.condP ?_ ?_
   ·all_goals exact hj3 _
   all_goals exact hj3 _
  ·funext a0 a1 a2 a3
   refine Eq.trans ?_ (Q.some_bind _);rw [coerce_coercer_object_n,coerce_coercer_object_qn];try rw [ih.1]
   try rw [ih.2.1]
   try rw [ih.2.2.1]
   try rw [ih.2.2.2]
   refine Q.condO ?_ ?_
   ·all_goals rfl
   refine Q.wrapPO fun Kb66 hKb66=>?_;refine coerce_coercer_object_l66_qe  Kb66 ?_ ?_ _ _ _ ⟨Nat.succ_pos _,by omega⟩
   ·intro n66 s30_67 y68_l0;refine Eq.trans ?_ (hKb66 _).symm;try dsimp only
    refine Q.wrapPO fun Kj6 hKj6=>?_;have hj6:∀(y7_l0:TValue),coerce_coercer_object_j6 a0 a1 a2 a3 (Z5_qn n) (coerce_coercer_at_qn n) y7_l0=Kj6 ():=by
     intro y7_l0;refine Eq.trans ?_ (hKj6 _).symm;unfold coerce_coercer_object_j6;refine Q.wrapOO fun Kb18 hKb18=>?_;refine coerce_coercer_object_l18_qe  Kb18 ?_ ?_ _ _ _ _ _ ⟨Nat.succ_pos _,by omega⟩
     ·intro n18 s49_19 y20_c0 y21_l0 y22_l1;refine Eq.trans ?_ (hKb18 _).symm;try dsimp only
      refine Q.wrapPO fun Kj11 hKj11=>?_;have hj11:∀(y12_c0:Coerce_coercer) (y13_l0:TValue) (y14_l1:TValue),coerce_coercer_object_j11  y12_c0 y13_l0 y14_l1=Kj11 (y12_c0,y14_l1):=by
       intro y12_c0 y13_l0 y14_l1;refine Eq.trans ?_ (hKj11 _).symm;try dsimp only
       unfold coerce_coercer_object_j11;all_goals rfl
      all_goals exact hj11 _ _ _
     intro e18;refine Eq.trans ?_ (hKb18 _).symm;try dsimp only
     all_goals rfl
    all_goals exact hj6 _
   intro e66;refine Eq.trans ?_ (hKb66 _).symm;try dsimp only
   all_goals rfl
  funext a0 a1 a2
  refine Eq.trans ?_ (Q.some_bind _);rw [Z5_n,Z5_qn];try rw [ih.1]
  try rw [ih.2.1]
  try rw [ih.2.2.1]
  try rw [ih.2.2.2]
  refine Q.bindO rfl fun x5=>?_;refine Q.bindPO (Z6_eq _ _ _) fun x6 hx_x6=>?_;all_goals rfl
def coerce_coercer_at_q (a0:Coerce_coercer) (a1:TRef) (a2:TValue) (a3:Int):Option (TValue×Int×Coerce_coercer):=coerce_coercer_at_qn F0 a0 a1 a2 a3
theorem coerce_coercer_at_eq (a0:Coerce_coercer) (a1:TRef) (a2:TValue) (a3:Int):coerce_coercer_at a0 a1 a2 a3=coerce_coercer_at_q a0 a1 a2 a3:=by
 unfold coerce_coercer_at coerce_coercer_at_q; rw [(coerce_coercer_at_qall F0).1]
def Z0_q (a0:TDoc) (a1:TRef) (a2:TValue) (a3:TValue):Option (TValue×Int):=(Z4_q (Coerce_coercer.mk a0 a3 true (0:Int)) a2).bind fun x6=>bif x6 then(on (Z94_q a0 a1.FName) fun x10=>bif (!x10) then(some ((TValue.mk (0:Int) (0:Int) ([]:Bs) true ([]) (Sl.nil:Sl Bs)),(10:Int))) else(some ((TValue.mk (0:Int) (0:Int) ([]:Bs) true ([]) (Sl.nil:Sl Bs)),(8:Int)))) else((coerce_coercer_at_q (Coerce_coercer.mk a0 a3 true (0:Int)) a1 a2 (1:Int)).bind fun x15=>(Z8_q x15.1 x15.2.1).bind fun x16=>some (x16.1,x16.2))
theorem Z0_eq (a0:TDoc) (a1:TRef) (a2:TValue) (a3:TValue):Z0 a0 a1 a2 a3=Z0_q a0 a1 a2 a3:=by
 unfold Z0 Z0_q;refine Eq.trans ?_ (Q.some_bind _);refine Q.bindO (Z4_eq _ _) fun x6=>?_;refine Q.condO ?_ ?_
 ·refine Q.bindPO (Z94_eq _ _) fun x10 hx_x10=>?_;refine Q.condO ?_ ?_
  ·all_goals rfl
  all_goals rfl
 refine Q.bindO (coerce_coercer_at_eq _ _ _ _) fun x15=>?_;refine Q.bindO (Z8_eq _ _) fun x16=>?_;all_goals rfl
def Z130_q4 (a1:TOp) (a2:(Sl Bs)):List TVar->Nat->Vars_checker->Option (Vars_checker)
 | [],s17_5,y6_c0=>some y6_c0
 | h4::r4,s17_5,y6_c0=>on (h4) fun x13=>on ((⟨a1.FVars.nl,a1.FVars.l.take s17_5⟩:Sl TVar)) fun x15=>on (Z101_q x15 (fun y0=>Z131_q y0 x13)) fun x16=>(Z129_q y6_c0 x16 (7:Int) a1.FName).bind fun x18=>on (Z92_q x18.Fd x13.FType.FName) fun x20=>on (bif !x20.2 then Z97_q x13.FType.FName else false) fun x22=>on (Z94_q x18.Fd x13.FType.FName) fun x24=>(Z129_q x18 (!(x20.2||x22)) (8:Int) a1.FName).bind fun x26=>(Z129_q x26 ((x20.2||x22)&&(!x24)) (10:Int) a1.FName).bind fun x28=>Option.bind (bif (x13.FHas&&x24) then((Z0_q x28.Fd x13.FType x13.FDefault (TValue.mk (6:Int) (0:Int) ([]:Bs) true ([]) (Sl.nil:Sl Bs))).bind fun x36=>(Z129_q x28 (!decide (x36.2=(0:Int))) (23:Int) a1.FName).bind fun x37=>some x37) else(some x28)) fun y30_c0=>on (Z103_q a2 x13.FName) fun x31=>(Z129_q y30_c0 (!x31) (26:Int) a1.FName).bind fun x32=>on (x32) fun y11_c0=>Z130_q4 a1 a2 (r4) (s17_5+1) y11_c0
theorem Z130_l4_qe {a1:TOp}{a2:(Sl Bs)}  (Kb4:(Vars_checker)->Option Vars_checker) (hend:∀(n4:Nat) (s17_5:Nat) (y6_c0:Vars_checker),some y6_c0=Kb4 y6_c0):∀(n4:Nat) (s17_5:Nat) (y6_c0:Vars_checker),(0<n4/\a1.FVars.l.length<s17_5+n4)->Z130_l4 a1 a2 n4 s17_5 y6_c0=Option.bind (Z130_q4 a1 a2 (a1.FVars.l.drop s17_5) s17_5 y6_c0) Kb4:=by
 intro n4;induction n4 with
 | zero=>intro s17_5 y6_c0 hn; exact absurd hn.1 (by omega)
 | succ n4 ih4 =>
  intro s17_5 y6_c0 hn;rw [Z130_l4];by_cases hlt:s17_5<a1.FVars.l.length
  ·obtain⟨h4,hh4⟩:∃x,a1.FVars.l[s17_5]?=some x:=⟨_,List.getElem?_eq_getElem hlt⟩;rw [Q.drop_of hh4,Z130_q4];refine Q.condT (Q.ltT hlt) ?_;refine Q.bindPO hh4 fun x13 hx_x13=>?_;refine Q.bindPO (Q.partC_take (by omega)) fun x15 hx_x15=>?_;refine Q.bindPO (by simp only [Z131_eq,Z101_eq]) fun x16 hx_x16=>?_;refine Q.bindO (Z129_eq _ _ _ _) fun x18=>?_;refine Q.bindPO (Z92_eq _ _) fun x20 hx_x20=>?_;refine Q.guardPO (Z97_eq _) fun x22 hx_x22=>?_
   refine Q.bindPO (Z94_eq _ _) fun x24 hx_x24=>?_;refine Q.bindO (Z129_eq _ _ _ _) fun x26=>?_;refine Q.bindO (Z129_eq _ _ _ _) fun x28=>?_;refine Q.wrapOO fun Kj29 hKj29=>?_;have hj29:∀(y30_c0:Vars_checker),Z130_j29 a1 a2 s17_5 x13 (Z130_l4 a1 a2 n4) y30_c0=Kj29 y30_c0:=by
    intro y30_c0;refine Eq.trans ?_ (hKj29 _).symm;unfold Z130_j29;refine Q.bindPO (Z103_eq _ _) fun x31 hx_x31=>?_;refine Q.bindO (Z129_eq _ _ _ _) fun x32=>?_;refine Q.wrapPO fun Kj10 hKj10=>?_;have hj10:∀(y11_c0:Vars_checker),Z130_j10 s17_5 (Z130_l4 a1 a2 n4) y11_c0=Kj10 y11_c0:=by
     intro y11_c0;refine Eq.trans ?_ (hKj10 _).symm;unfold Z130_j10;all_goals exact ih4 _ _ ⟨by omega,by omega⟩
    all_goals exact hj10 _
   refine Q.condO ?_ ?_
   ·refine Q.bindO (Z0_eq _ _ _ _) fun x36=>?_;refine Q.bindO (Z129_eq _ _ _ _) fun x37=>?_;all_goals exact hj29 _
   all_goals exact hj29 _
  rw [List.drop_of_length_le (by omega),Z130_q4];refine Q.condF (Q.ltF hlt) ?_;exact hend n4 s17_5 y6_c0
def Z130_q (a0:Vars_checker) (a1:TOp) (a2:(Sl Bs)):Option Vars_checker:=Option.bind (Z130_q4 a1 a2 a1.FVars.l 0 a0) fun y6_c0=>some y6_c0
theorem Z130_eq (a0:Vars_checker) (a1:TOp) (a2:(Sl Bs)):Z130 a0 a1 a2=Z130_q a0 a1 a2:=by
 unfold Z130 Z130_q;refine Eq.trans ?_ (Q.some_bind _);refine Q.wrapOO fun Kb4 hKb4=>?_;refine Z130_l4_qe  Kb4 ?_ _ _ _ ⟨Nat.succ_pos _,by omega⟩;intro n4 s17_5 y6_c0;refine Eq.trans ?_ (hKb4 _).symm;all_goals rfl
def Z105_q12 (a1:(Sl Int)):List Int->Nat->Option (Unit ⊕ Bool)
 | [],s13_13=>some (Sum.inl ())
 | h12::r12,s13_13=>on (h12) fun x20=>(a1.l[s13_13]?).bind fun x21=>bif (!decide (x20=x21)) then(some (Sum.inr false)) else(Z105_q12 a1 (r12) (s13_13+1) )
theorem Z105_l12_qe {a0:(Sl Int)}{a1:(Sl Int)}  (Kb12:(Unit ⊕ Bool)->Option Bool) (hend:∀(n12:Nat) (s13_13:Nat),Z105_j8   =Kb12 (Sum.inl ())) (hret:∀e:Bool,some e=Kb12 (Sum.inr e)):∀(n12:Nat) (s13_13:Nat),(0<n12/\a0.l.length<s13_13+n12)->Z105_l12 a0 a1 n12 s13_13=Option.bind (Z105_q12 a1 (a0.l.drop s13_13) s13_13 ) Kb12:=by
 intro n12;induction n12 with
 | zero=>intro s13_13 hn; exact absurd hn.1 (by omega)
 | succ n12 ih12 =>
  intro s13_13 hn;rw [Z105_l12];by_cases hlt:s13_13<a0.l.length
  ·obtain⟨h12,hh12⟩:∃x,a0.l[s13_13]?=some x:=⟨_,List.getElem?_eq_getElem hlt⟩;rw [Q.drop_of hh12,Z105_q12];refine Q.condT (Q.ltT hlt) ?_;refine Q.bindPO hh12 fun x20 hx_x20=>?_;refine Q.bindO rfl fun x21=>?_;refine Q.condO ?_ ?_
   ·all_goals exact hret _
   all_goals exact ih12 _ ⟨by omega,by omega⟩
  rw [List.drop_of_length_le (by omega),Z105_q12];refine Q.condF (Q.ltF hlt) ?_;exact hend n12 s13_13
def Z105_q (a0:(Sl Int)) (a1:(Sl Int)):Option Bool:=bif (!decide (((a0.l.length:Nat):Int)=((a1.l.length:Nat):Int))) then(some false) else(Option.bind (Z105_q12 a1 a0.l 0 ) fun o12=>match o12 with|Sum.inl _=>(on (()) fun _=>some true)|Sum.inr e12=>(some e12))
theorem Z105_eq (a0:(Sl Int)) (a1:(Sl Int)):Z105 a0 a1=Z105_q a0 a1:=by
 unfold Z105 Z105_q;refine Eq.trans ?_ (Q.some_bind _);refine Q.condO ?_ ?_
 ·all_goals rfl
 refine Q.wrapOO fun Kb12 hKb12=>?_;refine Z105_l12_qe  Kb12 ?_ ?_ _ _ ⟨Nat.succ_pos _,by omega⟩
 ·intro n12 s13_13;refine Eq.trans ?_ (hKb12 _).symm;try dsimp only
  refine Q.wrapPO fun Kj8 hKj8=>?_;have hj8:Z105_j8  =Kj8 ():=by
   refine Eq.trans ?_ (hKj8 _).symm;unfold Z105_j8;all_goals rfl
  all_goals exact hj8
 intro e12;refine Eq.trans ?_ (hKb12 _).symm;try dsimp only
 all_goals rfl
def Z121_q (a0:(Sl Int)):Option (Sl Int):=(Z99_q a0).bind fun x3=>(some (delL Z122 x3)).bind fun x4=>some x4
theorem Z121_eq (a0:(Sl Int)):Z121 a0=Z121_q a0:=by
 unfold Z121 Z121_q;refine Eq.trans ?_ (Q.some_bind _);refine Q.bindO (Z99_eq _) fun x3=>?_;refine Q.bindO rfl fun x4=>?_;all_goals rfl
def Z119_q (a0:TRef) (a1:TRef):Option Bool:=guardO (((a0.FName==a1.FName))) (Z121_q a0.FWraps) (Sl.nil:Sl Int) fun x3=>guardO (((a0.FName==a1.FName))) (Z121_q a1.FWraps) (Sl.nil:Sl Int) fun x4=>guardO (((a0.FName==a1.FName))) (Z105_q x3 x4) false fun x5=>some (((a0.FName==a1.FName))&&x5)
theorem Z119_eq (a0:TRef) (a1:TRef):Z119 a0 a1=Z119_q a0 a1:=by
 unfold Z119 Z119_q;refine Eq.trans ?_ (Q.some_bind _);refine Q.guardOO (Z121_eq _) fun x3=>?_;refine Q.guardOO (Z121_eq _) fun x4=>?_;refine Q.guardOO (Z105_eq _ _) fun x5=>?_;all_goals rfl
def Z120_q (a0:TRef) (a1:TRef):Option (TRef×Bool):=Z120 a0 a1
theorem Z120_eq (a0:TRef) (a1:TRef):Z120 a0 a1=Z120_q a0 a1:=rfl
def Z118_q (a0:TRef) (a1:TRef):Option Bool:=guardO (((a0.FName==a1.FName))) (Z105_q a0.FWraps a1.FWraps) false fun x3=>some (((a0.FName==a1.FName))&&x3)
theorem Z118_eq (a0:TRef) (a1:TRef):Z118 a0 a1=Z118_q a0 a1:=by
 unfold Z118 Z118_q;refine Eq.trans ?_ (Q.some_bind _);refine Q.guardOO (Z105_eq _ _) fun x3=>?_;all_goals rfl
def Z111_q (a0:TRef) (a1:TRef):Option Bool:=(Z120_q a0 a1).bind fun x3=>guardO (x3.2) (Z118_q x3.1 a1) false fun x5=>some (x3.2&&x5)
theorem Z111_eq (a0:TRef) (a1:TRef):Z111 a0 a1=Z111_q a0 a1:=by
 unfold Z111 Z111_q;refine Eq.trans ?_ (Q.some_bind _);refine Q.bindO (Z120_eq _ _) fun x3=>?_;refine Q.guardOO (Z118_eq _ _) fun x5=>?_;all_goals rfl
def Z127_q (a0:TDoc) (a1:TVar) (a2:TRef) (a3:Bool):Option Bool:=(Z111_q a1.FType a2).bind fun x3=>some x3
theorem Z127_eq (a0:TDoc) (a1:TVar) (a2:TRef) (a3:Bool):Z127 a0 a1 a2 a3=Z127_q a0 a1 a2 a3:=by
 unfold Z127 Z127_q;refine Eq.trans ?_ (Q.some_bind _);refine Q.bindO (Z111_eq _ _) fun x3=>?_;all_goals rfl
def Z135_q (a0:TVar) (a1:TValue):Bool:=((a0.FName==a1.FText))
theorem Z135_eq (a0:TVar) (a1:TValue):Z135 a0 a1=some (Z135_q a0 a1):=by
 unfold Z135 Z135_q;all_goals rfl
def Z134_q16 (a3:Bool) (a4:Bs) (x13:(TRef×Bool)) (k_rec_91:Vars_checker->TValue->TRef->Bool->Bs->Option Vars_checker):List TValue->Vars_checker->Option (Vars_checker)
 | [],y18_c0=>some y18_c0
 | h16::r16,y18_c0=>on (h16) fun x24=>(k_rec_91 y18_c0 x24 x13.1 (a3&&x13.2) a4).bind fun x25=>Z134_q16 a3 a4 x13 k_rec_91 (r16) x25
theorem Z134_l16_qe {a1:TValue}{a3:Bool}{a4:Bs}{x13:(TRef×Bool)}{k_rec_91:Vars_checker->TValue->TRef->Bool->Bs->Option Vars_checker}  (Kb16:(Vars_checker)->Option Vars_checker) (hend:∀(n16:Nat) (s66_17:Nat) (y18_c0:Vars_checker),some y18_c0=Kb16 y18_c0):∀(n16:Nat) (s66_17:Nat) (y18_c0:Vars_checker),(0<n16/\a1.FItems.l.length<s66_17+n16)->Z134_l16 a1 a3 a4 x13 k_rec_91 n16 s66_17 y18_c0=Option.bind (Z134_q16 a3 a4 x13 k_rec_91 (a1.FItems.l.drop s66_17) y18_c0) Kb16:=by
 intro n16;induction n16 with
 | zero=>intro s66_17 y18_c0 hn; exact absurd hn.1 (by omega)
 | succ n16 ih16 =>
  intro s66_17 y18_c0 hn;rw [Z134_l16];by_cases hlt:s66_17<a1.FItems.l.length
  ·obtain⟨h16,hh16⟩:∃x,a1.FItems.l[s66_17]?=some x:=⟨_,List.getElem?_eq_getElem hlt⟩;rw [Q.drop_of hh16,Z134_q16];refine Q.condT (Q.ltT hlt) ?_;refine Q.bindPO hh16 fun x24 hx_x24=>?_;refine Q.bindO rfl fun x25=>?_;all_goals exact ih16 _ _ ⟨by omega,by omega⟩
  rw [List.drop_of_length_le (by omega),Z134_q16];refine Q.condF (Q.ltF hlt) ?_;exact hend n16 s66_17 y18_c0
def Z134_q33 (a1:TValue) (a3:Bool) (a4:Bs) (x29:(TDef×Bool)) (k_rec_91:Vars_checker->TValue->TRef->Bool->Bs->Option Vars_checker):List TValue->Nat->Vars_checker->Option (Vars_checker)
 | [],s104_34,y35_c0=>some y35_c0
 | h33::r33,s104_34,y35_c0=>on (h33) fun x42=>Option.bind (bif (((x29.2&&a3)&&(decide (x29.1.FKind=(5:Int))))&&(decide (((s104_34:Nat):Int)<((a1.FKeys.l.length:Nat):Int)))) then((a1.FKeys.l[s104_34]?).bind fun x51=>on (Z93_q x29.1.FInputs x51) fun x52=>some (x52.2,x52.1)) else(some (false,TInput.zero))) fun z45=>(k_rec_91 y35_c0 x42 z45.2.FType z45.1 a4).bind fun x48=>on (x48) fun y40_c0=>Z134_q33 a1 a3 a4 x29 k_rec_91 (r33) (s104_34+1) y40_c0
theorem Z134_l33_qe {a1:TValue}{a3:Bool}{a4:Bs}{x29:(TDef×Bool)}{k_rec_91:Vars_checker->TValue->TRef->Bool->Bs->Option Vars_checker}  (Kb33:(Vars_checker)->Option Vars_checker) (hend:∀(n33:Nat) (s104_34:Nat) (y35_c0:Vars_checker),some y35_c0=Kb33 y35_c0):∀(n33:Nat) (s104_34:Nat) (y35_c0:Vars_checker),(0<n33/\a1.FItems.l.length<s104_34+n33)->Z134_l33 a1 a3 a4 x29 k_rec_91 n33 s104_34 y35_c0=Option.bind (Z134_q33 a1 a3 a4 x29 k_rec_91 (a1.FItems.l.drop s104_34) s104_34 y35_c0) Kb33:=by
 intro n33;induction n33 with
 | zero=>intro s104_34 y35_c0 hn; exact absurd hn.1 (by omega)
 | succ n33 ih33 =>
  intro s104_34 y35_c0 hn;rw [Z134_l33];by_cases hlt:s104_34<a1.FItems.l.length
  ·obtain⟨h33,hh33⟩:∃x,a1.FItems.l[s104_34]?=some x:=⟨_,List.getElem?_eq_getElem hlt⟩;rw [Q.drop_of hh33,Z134_q33];refine Q.condT (Q.ltT hlt) ?_;refine Q.bindPO hh33 fun x42 hx_x42=>?_;refine Q.wrapOO fun Kj45 hKj45=>?_;have hj45:∀(s20_46:Bool) (y47_l0:TInput),Z134_j45 a4 s104_34 y35_c0 x42 (Z134_l33 a1 a3 a4 x29 k_rec_91 n33) k_rec_91 s20_46 y47_l0=Kj45 (s20_46,y47_l0):=by
    intro s20_46 y47_l0;refine Eq.trans ?_ (hKj45 _).symm;try dsimp only
    unfold Z134_j45;refine Q.bindO rfl fun x48=>?_;refine Q.wrapPO fun Kj39 hKj39=>?_;have hj39:∀(y40_c0:Vars_checker),Z134_j39 s104_34 (Z134_l33 a1 a3 a4 x29 k_rec_91 n33) y40_c0=Kj39 y40_c0:=by
     intro y40_c0;refine Eq.trans ?_ (hKj39 _).symm;unfold Z134_j39;all_goals exact ih33 _ _ ⟨by omega,by omega⟩
    all_goals exact hj39 _
   refine Q.condO ?_ ?_
   ·refine Q.bindO rfl fun x51=>?_;refine Q.bindPO (Z93_eq _ _) fun x52 hx_x52=>?_;all_goals exact hj45 _ _
   all_goals exact hj45 _ _
  rw [List.drop_of_length_le (by omega),Z134_q33];refine Q.condF (Q.ltF hlt) ?_;exact hend n33 s104_34 y35_c0
def Z134_qn:Nat->Vars_checker->TValue->TRef->Bool->Bs->Option Vars_checker
 | 0,_,_,_,_,_=>none
 | n+1,a0,a1,a2,a3,a4=>bif (decide (a1.FKind=(7:Int))) then(on (Z106_q a0.Fvars (fun y0=>Z135_q y0 a1)) fun x6=>guardO ((!(decide (x6<(0:Int)))&&a3)) (idxC a0.Fvars.l (if (0:Int)>x6 then(0:Int) else x6)) TVar.zero fun x7=>guardO ((!(decide (x6<(0:Int)))&&a3)) (Z127_q a0.Fd x7 a2 false) false fun x8=>(Z129_q a0 ((decide (x6<(0:Int)))||(a3&&(!x8))) (27:Int) a4).bind fun x9=>some x9) else(bif (decide (a1.FKind=(5:Int))) then((Z112_q a2).bind fun x13=>Option.bind (Z134_q16 a3 a4 x13 (Z134_qn n) a1.FItems.l a0) fun y18_c0=>some y18_c0) else(bif (decide (a1.FKind=(6:Int))) then(on (Z92_q a0.Fd a2.FName) fun x29=>Option.bind (Z134_q33 a1 a3 a4 x29 (Z134_qn n) a1.FItems.l 0 a0) fun y35_c0=>some y35_c0) else(some a0)))
theorem Z134_qall:∀n:Nat,Z134_n n=Z134_qn n:=by
 intro n;induction n with
 | zero=>exact(by funext a0 a1 a2 a3 a4; first|rfl|(rw [Z134_n,Z134_qn]))
 | succ n ih =>
  funext a0 a1 a2 a3 a4
  refine Eq.trans ?_ (Q.some_bind _);rw [Z134_n,Z134_qn];try rw [ih]
  refine Q.condO ?_ ?_
  ·refine Q.bindPO (by simp only [Z135_eq,Z106_eq]) fun x6 hx_x6=>?_;refine Q.guardOO rfl fun x7=>?_;refine Q.guardOO (Z127_eq _ _ _ _) fun x8=>?_;refine Q.bindO (Z129_eq _ _ _ _) fun x9=>?_;all_goals rfl
  refine Q.condO ?_ ?_
  ·refine Q.bindO (Z112_eq _) fun x13=>?_;refine Q.wrapOO fun Kb16 hKb16=>?_;refine Z134_l16_qe  Kb16 ?_ _ _ _ ⟨Nat.succ_pos _,by omega⟩;intro n16 s66_17 y18_c0;refine Eq.trans ?_ (hKb16 _).symm;all_goals rfl
  refine Q.condO ?_ ?_
  ·refine Q.bindPO (Z92_eq _ _) fun x29 hx_x29=>?_;refine Q.wrapOO fun Kb33 hKb33=>?_;refine Z134_l33_qe  Kb33 ?_ _ _ _ ⟨Nat.succ_pos _,by omega⟩;intro n33 s104_34 y35_c0;refine Eq.trans ?_ (hKb33 _).symm;all_goals rfl
  all_goals rfl
def Z134_q (a0:Vars_checker) (a1:TValue) (a2:TRef) (a3:Bool) (a4:Bs):Option Vars_checker:=Z134_qn F0 a0 a1 a2 a3 a4
theorem Z134_eq (a0:Vars_checker) (a1:TValue) (a2:TRef) (a3:Bool) (a4:Bs):Z134 a0 a1 a2 a3 a4=Z134_q a0 a1 a2 a3 a4:=by
 unfold Z134 Z134_q; rw [(Z134_qall F0)]
def Z116_q (a0:TRef):Option TRef:=on (Z114_q a0) fun x4=>bif x4 then((Z99_q a0.FWraps).bind fun x7=>some (TRef.mk a0.FName x7)) else((appC 8 (⟨false,[(1:Int)]⟩:Sl Int) a0.FWraps).bind fun x9=>some (TRef.mk a0.FName x9))
theorem Z116_eq (a0:TRef):Z116 a0=Z116_q a0:=by
 unfold Z116 Z116_q;refine Eq.trans ?_ (Q.some_bind _);refine Q.bindPO (Z114_eq _) fun x4 hx_x4=>?_;refine Q.condO ?_ ?_
 ·refine Q.bindO (Z99_eq _) fun x7=>?_;all_goals rfl
 refine Q.bindO rfl fun x9=>?_;all_goals rfl
def Z115_q (a0:Bs):TRef:=(TRef.mk a0 (Sl.nil:Sl Int))
theorem Z115_eq (a0:Bs):Z115 a0=some (Z115_q a0):=by
 unfold Z115 Z115_q;all_goals rfl
def Z132_q15 (a2:Bs) (x12:TDir):List TArg->Vars_checker->Option (Vars_checker)
 | [],y17_c0=>some y17_c0
 | h15::r15,y17_c0=>on (h15) fun x23=>on (Z115_q ([66,111,111,108,101,97,110]:Bs)) fun x25=>(Z116_q x25).bind fun x26=>(Z134_q y17_c0 x23.FValue x26 (((x23.FName==([105,102]:Bs)))&&(((x12.FName==([115,107,105,112]:Bs)))||((x12.FName==([105,110,99,108,117,100,101]:Bs))))) a2).bind fun x27=>Z132_q15 a2 x12 (r15) x27
theorem Z132_l15_qe {a2:Bs}{s13_4:Nat}{x12:TDir}{k_next_3:Nat->Vars_checker->Option Vars_checker}  (Kb15:(Vars_checker)->Option Vars_checker) (hend:∀(n15:Nat) (s20_16:Nat) (y17_c0:Vars_checker),Z132_j9 s13_4 k_next_3 y17_c0=Kb15 y17_c0):∀(n15:Nat) (s20_16:Nat) (y17_c0:Vars_checker),(0<n15/\x12.FArgs.l.length<s20_16+n15)->Z132_l15 a2 s13_4 x12 k_next_3 n15 s20_16 y17_c0=Option.bind (Z132_q15 a2 x12 (x12.FArgs.l.drop s20_16) y17_c0) Kb15:=by
 intro n15;induction n15 with
 | zero=>intro s20_16 y17_c0 hn; exact absurd hn.1 (by omega)
 | succ n15 ih15 =>
  intro s20_16 y17_c0 hn;rw [Z132_l15];by_cases hlt:s20_16<x12.FArgs.l.length
  ·obtain⟨h15,hh15⟩:∃x,x12.FArgs.l[s20_16]?=some x:=⟨_,List.getElem?_eq_getElem hlt⟩;rw [Q.drop_of hh15,Z132_q15];refine Q.condT (Q.ltT hlt) ?_;refine Q.bindPO hh15 fun x23 hx_x23=>?_;refine Q.bindPO (Z115_eq _) fun x25 hx_x25=>?_;refine Q.bindO (Z116_eq _) fun x26=>?_;refine Q.bindO (Z134_eq _ _ _ _ _) fun x27=>?_;all_goals exact ih15 _ _ ⟨by omega,by omega⟩
  rw [List.drop_of_length_le (by omega),Z132_q15];refine Q.condF (Q.ltF hlt) ?_;exact hend n15 s20_16 y17_c0
def Z132_q3 (a2:Bs):List TDir->Vars_checker->Option (Vars_checker)
 | [],y5_c0=>some y5_c0
 | h3::r3,y5_c0=>on (h3) fun x12=>Option.bind (Z132_q15 a2 x12 x12.FArgs.l y5_c0) fun y17_c0=>on (y17_c0) fun y10_c0=>Z132_q3 a2 (r3) y10_c0
theorem Z132_l3_qe {a1:(Sl TDir)}{a2:Bs}  (Kb3:(Vars_checker)->Option Vars_checker) (hend:∀(n3:Nat) (s13_4:Nat) (y5_c0:Vars_checker),some y5_c0=Kb3 y5_c0):∀(n3:Nat) (s13_4:Nat) (y5_c0:Vars_checker),(0<n3/\a1.l.length<s13_4+n3)->Z132_l3 a1 a2 n3 s13_4 y5_c0=Option.bind (Z132_q3 a2 (a1.l.drop s13_4) y5_c0) Kb3:=by
 intro n3;induction n3 with
 | zero=>intro s13_4 y5_c0 hn; exact absurd hn.1 (by omega)
 | succ n3 ih3 =>
  intro s13_4 y5_c0 hn;rw [Z132_l3];by_cases hlt:s13_4<a1.l.length
  ·obtain⟨h3,hh3⟩:∃x,a1.l[s13_4]?=some x:=⟨_,List.getElem?_eq_getElem hlt⟩;rw [Q.drop_of hh3,Z132_q3];refine Q.condT (Q.ltT hlt) ?_;refine Q.bindPO hh3 fun x12 hx_x12=>?_;refine Q.wrapOO fun Kb15 hKb15=>?_;refine Z132_l15_qe  Kb15 ?_ _ _ _ ⟨Nat.succ_pos _,by omega⟩;intro n15 s20_16 y17_c0;refine Eq.trans ?_ (hKb15 _).symm;refine Q.wrapPO fun Kj9 hKj9=>?_;have hj9:∀(y10_c0:Vars_checker),Z132_j9 s13_4 (Z132_l3 a1 a2 n3) y10_c0=Kj9 y10_c0:=by
    intro y10_c0;refine Eq.trans ?_ (hKj9 _).symm;unfold Z132_j9;all_goals exact ih3 _ _ ⟨by omega,by omega⟩
   all_goals exact hj9 _
  rw [List.drop_of_length_le (by omega),Z132_q3];refine Q.condF (Q.ltF hlt) ?_;exact hend n3 s13_4 y5_c0
def Z132_q (a0:Vars_checker) (a1:(Sl TDir)) (a2:Bs):Option Vars_checker:=Option.bind (Z132_q3 a2 a1.l a0) fun y5_c0=>some y5_c0
theorem Z132_eq (a0:Vars_checker) (a1:(Sl TDir)) (a2:Bs):Z132 a0 a1 a2=Z132_q a0 a1 a2:=by
 unfold Z132 Z132_q;refine Eq.trans ?_ (Q.some_bind _);refine Q.wrapOO fun Kb3 hKb3=>?_;refine Z132_l3_qe  Kb3 ?_ _ _ _ ⟨Nat.succ_pos _,by omega⟩;intro n3 s13_4 y5_c0;refine Eq.trans ?_ (hKb3 _).symm;all_goals rfl
def Z90_q (a0:TDoc) (a1:Bs):Bool:=on (Z98_q a0 a1) fun x3=>on (Z97_q a1) fun x5=>((!x5)&&(((decide (x3=(1:Int)))||(decide (x3=(2:Int))))||(decide (x3=(3:Int)))))
theorem Z90_eq (a0:TDoc) (a1:Bs):Z90 a0 a1=some (Z90_q a0 a1):=by
 unfold Z90 Z90_q;refine Q.bindP (Z98_eq _ _) fun x3 hx_x3=>?_;refine Q.bindP (Z97_eq _) fun x5 hx_x5=>?_;all_goals rfl
def Z91_q7 (a1:Bs):List TField->Unit ⊕ ((TField×Bool))
 | []=>Sum.inl ()
 | h7::r7=>on (h7) fun x15=>bif ((x15.FName==a1)) then(Sum.inr (x15,true)) else(Z91_q7 a1 (r7) )
theorem Z91_l7_qe {a0:TDef}{a1:Bs}  (Kb7:(Unit ⊕ ((TField×Bool)))->Option (TField×Bool)) (hend:∀(n7:Nat) (s11_8:Nat) (y9_l0:TField),Z91_j2   y9_l0=Kb7 (Sum.inl ())) (hret:∀e:(TField×Bool),some e=Kb7 (Sum.inr e)):∀(n7:Nat) (s11_8:Nat) (y9_l0:TField),(0<n7/\a0.FFields.l.length<s11_8+n7)->Z91_l7 a0 a1 n7 s11_8 y9_l0=Kb7 (Z91_q7 a1 (a0.FFields.l.drop s11_8) ):=by
 intro n7;induction n7 with
 | zero=>intro s11_8 y9_l0 hn; exact absurd hn.1 (by omega)
 | succ n7 ih7 =>
  intro s11_8 y9_l0 hn;rw [Z91_l7];by_cases hlt:s11_8<a0.FFields.l.length
  ·obtain⟨h7,hh7⟩:∃x,a0.FFields.l[s11_8]?=some x:=⟨_,List.getElem?_eq_getElem hlt⟩;rw [Q.drop_of hh7,Z91_q7];refine Q.condT (Q.ltT hlt) ?_;refine Q.bindP hh7 fun x15 hx_x15=>?_;refine Q.condP ?_ ?_
   ·all_goals exact hret _
   all_goals exact ih7 _ _ ⟨by omega,by omega⟩
  rw [List.drop_of_length_le (by omega),Z91_q7];refine Q.condF (Q.ltF hlt) ?_;exact hend n7 s11_8 y9_l0
def Z91_q (a0:TDef) (a1:Bs):(TField×Bool):=on (Z91_q7 a1 a0.FFields.l ) fun o7=>match o7 with|Sum.inl _=>(on (()) fun _=>((TField.mk ([]:Bs) (Sl.nil:Sl TInput) TRef.zero (Sl.nil:Sl TDir)),false))|Sum.inr e7=>(e7)
theorem Z91_eq (a0:TDef) (a1:Bs):Z91 a0 a1=some (Z91_q a0 a1):=by
 unfold Z91 Z91_q;refine Q.wrapPP fun Kb7 hKb7=>?_;refine Z91_l7_qe  Kb7 ?_ ?_ _ _ _ ⟨Nat.succ_pos _,by omega⟩
 ·intro n7 s11_8 y9_l0;refine Eq.trans ?_ (hKb7 _).symm;try dsimp only
  refine Q.wrapPP fun Kj2 hKj2=>?_;have hj2:∀(y3_l0:TField),Z91_j2  y3_l0=Kj2 ():=by
   intro y3_l0;refine Eq.trans ?_ (hKj2 _).symm;unfold Z91_j2;all_goals rfl
  all_goals exact hj2 _
 intro e7;refine Eq.trans ?_ (hKb7 _).symm;try dsimp only
 all_goals rfl
def vars_checker_sels_q3 (a2:Bs) (a3:Bs) (k_rec_18:Vars_checker->(Sl TSel)->Bs->Bs->Option Vars_checker) (k_rec_52:Vars_checker->TSel->Bs->Bs->Option Vars_checker):List TSel->Vars_checker->Option (Vars_checker)
 | [],y5_c0=>some y5_c0
 | h3::r3,y5_c0=>on (h3) fun x12=>Option.bind (bif (decide (x12.FKind=(2:Int))) then((Z132_q y5_c0 x12.FDirs a3).bind fun x16=>some x16) else(bif (decide (x12.FKind=(3:Int))) then((Z132_q y5_c0 x12.FDirs a3).bind fun x20=>on (bif (!(x12.FOn==([]:Bs))) then(x12.FOn) else(a2)) fun s10_23=>(k_rec_18 x20 x12.FSels s10_23 a3).bind fun x24=>some x24) else((k_rec_52 y5_c0 x12 a2 a3).bind fun x27=>some x27))) fun y10_c0=>vars_checker_sels_q3 a2 a3 k_rec_18 k_rec_52 (r3) y10_c0
theorem vars_checker_sels_l3_qe {a1:(Sl TSel)}{a2:Bs}{a3:Bs}{k_rec_18:Vars_checker->(Sl TSel)->Bs->Bs->Option Vars_checker}{k_rec_52:Vars_checker->TSel->Bs->Bs->Option Vars_checker}  (Kb3:(Vars_checker)->Option Vars_checker) (hend:∀(n3:Nat) (s13_4:Nat) (y5_c0:Vars_checker),some y5_c0=Kb3 y5_c0):∀(n3:Nat) (s13_4:Nat) (y5_c0:Vars_checker),(0<n3/\a1.l.length<s13_4+n3)->vars_checker_sels_l3 a1 a2 a3 k_rec_18 k_rec_52 n3 s13_4 y5_c0=Option.bind (vars_checker_sels_q3 a2 a3 k_rec_18 k_rec_52 (a1.l.drop s13_4) y5_c0) Kb3:=by
 intro n3;induction n3 with
 | zero=>intro s13_4 y5_c0 hn; exact absurd hn.1 (by omega)
 | succ n3 ih3 =>
  intro s13_4 y5_c0 hn;rw [vars_checker_sels_l3];by_cases hlt:s13_4<a1.l.length
  ·obtain⟨h3,hh3⟩:∃x,a1.l[s13_4]?=some x:=⟨_,List.getElem?_eq_getElem hlt⟩;rw [Q.drop_of hh3,vars_checker_sels_q3];refine Q.condT (Q.ltT hlt) ?_;refine Q.bindPO hh3 fun x12 hx_x12=>?_;refine Q.wrapOO fun Kj9 hKj9=>?_;have hj9:∀(y10_c0:Vars_checker),vars_checker_sels_j9 s13_4 (vars_checker_sels_l3 a1 a2 a3 k_rec_18 k_rec_52 n3) y10_c0=Kj9 y10_c0:=by
    intro y10_c0;refine Eq.trans ?_ (hKj9 _).symm;unfold vars_checker_sels_j9;all_goals exact ih3 _ _ ⟨by omega,by omega⟩
   refine Q.condO ?_ ?_
   ·refine Q.bindO (Z132_eq _ _ _) fun x16=>?_;all_goals exact hj9 _
   refine Q.condO ?_ ?_
   ·refine Q.bindO (Z132_eq _ _ _) fun x20=>?_;refine Q.wrapPO fun Kj22 hKj22=>?_;have hj22:∀(s10_23:Bs),vars_checker_sels_j22 a3 s13_4 x12 x20 (vars_checker_sels_l3 a1 a2 a3 k_rec_18 k_rec_52 n3) k_rec_18 s10_23=Kj22 s10_23:=by
     intro s10_23;refine Eq.trans ?_ (hKj22 _).symm;unfold vars_checker_sels_j22;refine Q.bindO rfl fun x24=>?_;all_goals exact hj9 _
    refine Q.condP ?_ ?_
    ·all_goals exact hj22 _
    all_goals exact hj22 _
   refine Q.bindO rfl fun x27=>?_;all_goals exact hj9 _
  rw [List.drop_of_length_le (by omega),vars_checker_sels_q3];refine Q.condF (Q.ltF hlt) ?_;exact hend n3 s13_4 y5_c0
def Z133_q18 (x7:Bs) (y10_l0:TField):List TArg->Vars_checker->Option (Vars_checker)
 | [],y20_c0=>some y20_c0
 | h18::r18,y20_c0=>on (h18) fun x26=>on (Z93_q y10_l0.FArgs x26.FName) fun x28=>(Z134_q y20_c0 x26.FValue x28.1.FType x28.2 x7).bind fun x29=>Z133_q18 x7 y10_l0 (r18) x29
theorem Z133_l18_qe {a1:TSel}{x7:Bs}{y10_l0:TField}{k_rec_18:Vars_checker->(Sl TSel)->Bs->Bs->Option Vars_checker}  (Kb18:(Vars_checker)->Option Vars_checker) (hend:∀(n18:Nat) (s54_19:Nat) (y20_c0:Vars_checker),Z133_j11 a1 x7 y10_l0 k_rec_18 y20_c0=Kb18 y20_c0):∀(n18:Nat) (s54_19:Nat) (y20_c0:Vars_checker),(0<n18/\a1.FArgs.l.length<s54_19+n18)->Z133_l18 a1 x7 y10_l0 k_rec_18 n18 s54_19 y20_c0=Option.bind (Z133_q18 x7 y10_l0 (a1.FArgs.l.drop s54_19) y20_c0) Kb18:=by
 intro n18;induction n18 with
 | zero=>intro s54_19 y20_c0 hn; exact absurd hn.1 (by omega)
 | succ n18 ih18 =>
  intro s54_19 y20_c0 hn;rw [Z133_l18];by_cases hlt:s54_19<a1.FArgs.l.length
  ·obtain⟨h18,hh18⟩:∃x,a1.FArgs.l[s54_19]?=some x:=⟨_,List.getElem?_eq_getElem hlt⟩;rw [Q.drop_of hh18,Z133_q18];refine Q.condT (Q.ltT hlt) ?_;refine Q.bindPO hh18 fun x26 hx_x26=>?_;refine Q.bindPO (Z93_eq _ _) fun x28 hx_x28=>?_;refine Q.bindO (Z134_eq _ _ _ _ _) fun x29=>?_;all_goals exact ih18 _ _ ⟨by omega,by omega⟩
  rw [List.drop_of_length_le (by omega),Z133_q18];refine Q.condF (Q.ltF hlt) ?_;exact hend n18 s54_19 y20_c0
mutual
def vars_checker_sels_qn:Nat->Vars_checker->(Sl TSel)->Bs->Bs->Option Vars_checker
 | 0,_,_,_,_=>none
 | n+1,a0,a1,a2,a3=>Option.bind (vars_checker_sels_q3 a2 a3 (vars_checker_sels_qn n) (Z133_qn n) a1.l a0) fun y5_c0=>some y5_c0
def Z133_qn:Nat->Vars_checker->TSel->Bs->Bs->Option Vars_checker
 | 0,_,_,_,_=>none
 | n+1,a0,a1,a2,a3=>on (bif ((a1.FAlias==([]:Bs))) then(a1.FName) else(a1.FAlias)) fun s8_4=>(catC ([47]:Bs) s8_4).bind fun x6=>(catC a3 x6).bind fun x7=>on (Z92_q a0.Fd a2) fun x31=>on (bif x31.2 then Z90_q a0.Fd a2 else false) fun x33=>on (bif (x31.2&&x33) then(on (Z91_q x31.1 a1.FName) fun x35=>x35.1) else(TField.zero)) fun y10_l0=>Option.bind (Z133_q18 x7 y10_l0 a1.FArgs.l a0) fun y20_c0=>on (y20_c0) fun y12_c0=>(Z132_q y12_c0 a1.FDirs x7).bind fun x14=>((vars_checker_sels_qn n) x14 a1.FSels y10_l0.FType.FName x7).bind fun x15=>some x15
end
theorem vars_checker_sels_qall:∀n:Nat,vars_checker_sels_n n=vars_checker_sels_qn n/\Z133_n n=Z133_qn n:=by
 intro n;induction n with
 | zero=>exact⟨(by funext a0 a1 a2 a3; first|rfl|(rw [vars_checker_sels_n,vars_checker_sels_qn])),(by funext a0 a1 a2 a3; first|rfl|(rw [Z133_n,Z133_qn]))⟩
 | succ n ih =>
  refine⟨?_, ?_⟩
  ·funext a0 a1 a2 a3
   refine Eq.trans ?_ (Q.some_bind _);rw [vars_checker_sels_n,vars_checker_sels_qn];try rw [ih.1]
   try rw [ih.2]
   refine Q.wrapOO fun Kb3 hKb3=>?_;refine vars_checker_sels_l3_qe  Kb3 ?_ _ _ _ ⟨Nat.succ_pos _,by omega⟩;intro n3 s13_4 y5_c0;refine Eq.trans ?_ (hKb3 _).symm;all_goals rfl
  funext a0 a1 a2 a3
  refine Eq.trans ?_ (Q.some_bind _);rw [Z133_n,Z133_qn];try rw [ih.1]
  try rw [ih.2]
  refine Q.wrapPO fun Kj3 hKj3=>?_;have hj3:∀(s8_4:Bs),Z133_j3 a0 a1 a2 a3 (vars_checker_sels_qn n) s8_4=Kj3 s8_4:=by
   intro s8_4;refine Eq.trans ?_ (hKj3 _).symm;unfold Z133_j3;refine Q.bindO rfl fun x6=>?_;refine Q.bindO rfl fun x7=>?_;refine Q.bindPO (Z92_eq _ _) fun x31 hx_x31=>?_;refine Q.guardPO (Z90_eq _ _) fun x33 hx_x33=>?_;refine Q.wrapPO fun Kj9 hKj9=>?_;have hj9:∀(y10_l0:TField),Z133_j9 a0 a1 x7 (vars_checker_sels_qn n) y10_l0=Kj9 y10_l0:=by
    intro y10_l0;refine Eq.trans ?_ (hKj9 _).symm;unfold Z133_j9;refine Q.wrapOO fun Kb18 hKb18=>?_;refine Z133_l18_qe  Kb18 ?_ _ _ _ ⟨Nat.succ_pos _,by omega⟩;intro n18 s54_19 y20_c0;refine Eq.trans ?_ (hKb18 _).symm;refine Q.wrapPO fun Kj11 hKj11=>?_;have hj11:∀(y12_c0:Vars_checker),Z133_j11 a1 x7 y10_l0 (vars_checker_sels_qn n) y12_c0=Kj11 y12_c0:=by
     intro y12_c0;refine Eq.trans ?_ (hKj11 _).symm;unfold Z133_j11;refine Q.bindO (Z132_eq _ _ _) fun x14=>?_;refine Q.bindO rfl fun x15=>?_;all_goals rfl
    all_goals exact hj11 _
   refine Q.condP ?_ ?_
   ·refine Q.bindP (Z91_eq _ _) fun x35 hx_x35=>?_;all_goals exact hj9 _
   all_goals exact hj9 _
  refine Q.condP ?_ ?_
  ·all_goals exact hj3 _
  all_goals exact hj3 _
def vars_checker_sels_q (a0:Vars_checker) (a1:(Sl TSel)) (a2:Bs) (a3:Bs):Option Vars_checker:=vars_checker_sels_qn F0 a0 a1 a2 a3
theorem vars_checker_sels_eq (a0:Vars_checker) (a1:(Sl TSel)) (a2:Bs) (a3:Bs):vars_checker_sels a0 a1 a2 a3=vars_checker_sels_q a0 a1 a2 a3:=by
 unfold vars_checker_sels vars_checker_sels_q; rw [(vars_checker_sels_qall F0).1]
def Z96_q (a0:Int):Bs:=bif (decide (a0=(1:Int))) then(([81,117,101,114,121]:Bs)) else(bif (decide (a0=(2:Int))) then(([77,117,116,97,116,105,111,110]:Bs)) else(bif (decide (a0=(3:Int))) then(([83,117,98,115,99,114,105,112,116,105,111,110]:Bs)) else(([]:Bs))))
theorem Z96_eq (a0:Int):Z96 a0=some (Z96_q a0):=by
 unfold Z96 Z96_q;refine Q.condP ?_ ?_
 ·all_goals rfl
 refine Q.condP ?_ ?_
 ·all_goals rfl
 refine Q.condP ?_ ?_
 ·all_goals rfl
 all_goals rfl
end Go.Proofs

namespace Go.Proofs
open Go Go.Ab
def Z12_q9 (a0:TQuery) (k_rec_53:TQuery->(Sl TSel)->(Sl Bs)->Option ((Sl Bs)×Bool)):List TSel->(Sl Bs)->Bool->Option (((Sl Bs)×Bool))
 | [],s2_10,s8_11=>some (s2_10,s8_11)
 | h9::r9,s2_10,s8_11=>on (h9) fun x20=>Option.bind (on (fun(s2_23:(Sl Bs)) (s8_24:Bool) (s11_25:(Sl TSel))=>(k_rec_53 a0 s11_25 s2_23).bind fun x28=>some (x28.1,(s8_24&&x28.2))) fun kj22=>bif (decide (x20.FKind=(2:Int))) then(on (Z9_q a0 x20.FName) fun x32=>on (bif !(!x32.2) then Z103_q s2_10 x20.FName else false) fun x36=>bif ((!x32.2)||x36) then(some (s2_10,(s8_11&&x32.2))) else((appC 16 s2_10 (⟨false,[x20.FName]⟩:Sl Bs)).bind fun x39=>kj22 x39 (s8_11&&x32.2) x32.1.FSels)) else(kj22 s2_10 s8_11 x20.FSels)) fun z16=>Z12_q9 a0 k_rec_53 (r9) z16.1 z16.2
theorem Z12_l9_qe {a0:TQuery}{a1:(Sl TSel)}{k_rec_53:TQuery->(Sl TSel)->(Sl Bs)->Option ((Sl Bs)×Bool)}  (Kb9:(((Sl Bs)×Bool))->Option ((Sl Bs)×Bool)) (hend:∀(n9:Nat) (s2_10:(Sl Bs)) (s8_11:Bool) (s17_12:Nat),Z12_j3   s2_10 s8_11=Kb9 (s2_10,s8_11)):∀(n9:Nat) (s2_10:(Sl Bs)) (s8_11:Bool) (s17_12:Nat),(0<n9/\a1.l.length<s17_12+n9)->Z12_l9 a0 a1 k_rec_53 n9 s2_10 s8_11 s17_12=Option.bind (Z12_q9 a0 k_rec_53 (a1.l.drop s17_12) s2_10 s8_11) Kb9:=by
 intro n9;induction n9 with
 | zero=>intro s2_10 s8_11 s17_12 hn; exact absurd hn.1 (by omega)
 | succ n9 ih9 =>
  intro s2_10 s8_11 s17_12 hn;rw [Z12_l9];by_cases hlt:s17_12<a1.l.length
  ·obtain⟨h9,hh9⟩:∃x,a1.l[s17_12]?=some x:=⟨_,List.getElem?_eq_getElem hlt⟩;rw [Q.drop_of hh9,Z12_q9];refine Q.condT (Q.ltT hlt) ?_;refine Q.bindPO hh9 fun x20 hx_x20=>?_;refine Q.wrapOO fun Kj16 hKj16=>?_;have hj16:∀(s2_17:(Sl Bs)) (s8_18:Bool),Z12_j16 s17_12 (Z12_l9 a0 a1 k_rec_53 n9) s2_17 s8_18=Kj16 (s2_17,s8_18):=by
    intro s2_17 s8_18;refine Eq.trans ?_ (hKj16 _).symm;try dsimp only
    unfold Z12_j16;all_goals exact ih9 _ _ _ ⟨by omega,by omega⟩
   refine Q.mixO fun kj22 hkj22=>?_;have hj22:∀(s2_23:(Sl Bs)) (s8_24:Bool) (s11_25:(Sl TSel)),Z12_j22 a0 s17_12 (Z12_l9 a0 a1 k_rec_53 n9) k_rec_53 s2_23 s8_24 s11_25=Option.bind (kj22 s2_23 s8_24 s11_25) Kj16:=by
    intro s2_23 s8_24 s11_25;unfold Z12_j22;rw [hkj22];try dsimp only
    refine Q.bindO rfl fun x28=>?_;all_goals exact hj16 _ _
   refine Q.condO ?_ ?_
   ·refine Q.bindPO (Z9_eq _ _) fun x32 hx_x32=>?_;refine Q.guardPO (Z103_eq _ _) fun x36 hx_x36=>?_;refine Q.condO ?_ ?_
    ·all_goals exact hj16 _ _
    refine Q.bindO rfl fun x39=>?_;all_goals exact hj22 _ _ _
   all_goals exact hj22 _ _ _
  rw [List.drop_of_length_le (by omega),Z12_q9];refine Q.condF (Q.ltF hlt) ?_;exact hend n9 s2_10 s8_11 s17_12
def Z12_qn:Nat->TQuery->(Sl TSel)->(Sl Bs)->Option ((Sl Bs)×Bool)
 | 0,_,_,_=>none
 | n+1,a0,a1,a2=>Option.bind (Z12_q9 a0 (Z12_qn n) a1.l a2 true) fun z9=>on ((z9.1,z9.2)) fun z3=>some (z3.1,z3.2)
theorem Z12_qall:∀n:Nat,Z12_n n=Z12_qn n:=by
 intro n;induction n with
 | zero=>exact(by funext a0 a1 a2; first|rfl|(rw [Z12_n,Z12_qn]))
 | succ n ih =>
  funext a0 a1 a2
  refine Eq.trans ?_ (Q.some_bind _);rw [Z12_n,Z12_qn];try rw [ih]
  refine Q.wrapOO fun Kb9 hKb9=>?_;refine Z12_l9_qe  Kb9 ?_ _ _ _ _ ⟨Nat.succ_pos _,by omega⟩;intro n9 s2_10 s8_11 s17_12;refine Eq.trans ?_ (hKb9 _).symm;try dsimp only
  refine Q.wrapPO fun Kj3 hKj3=>?_;have hj3:∀(s2_4:(Sl Bs)) (s8_5:Bool),Z12_j3  s2_4 s8_5=Kj3 (s2_4,s8_5):=by
   intro s2_4 s8_5;refine Eq.trans ?_ (hKj3 _).symm;try dsimp only
   unfold Z12_j3;all_goals rfl
  all_goals exact hj3 _ _
def Z12_q (a0:TQuery) (a1:(Sl TSel)) (a2:(Sl Bs)):Option ((Sl Bs)×Bool):=Z12_qn F0 a0 a1 a2
theorem Z12_eq (a0:TQuery) (a1:(Sl TSel)) (a2:(Sl Bs)):Z12 a0 a1 a2=Z12_q a0 a1 a2:=by
 unfold Z12 Z12_q; rw [(Z12_qall F0)]
def Z11_q (a0:TQuery) (a1:TFrag):Option Bool:=(Z12_q a0 a1.FSels (Sl.nil:Sl Bs)).bind fun x4=>on (Z103_q x4.1 a1.FName) fun x6=>some x6
theorem Z11_eq (a0:TQuery) (a1:TFrag):Z11 a0 a1=Z11_q a0 a1:=by
 unfold Z11 Z11_q;refine Eq.trans ?_ (Q.some_bind _);refine Q.bindO (Z12_eq _ _ _) fun x4=>?_;refine Q.bindPO (Z103_eq _ _) fun x6 hx_x6=>?_;all_goals rfl
def Z10_q10 (a0:TQuery):List Bs->Bool->Option (Bool)
 | [],s7_11=>some s7_11
 | h10::r10,s7_11=>on (h10) fun x18=>on (Z9_q a0 x18) fun x20=>guardO (s7_11) (Z11_q a0 x20.1) false fun x21=>Z10_q10 a0 (r10) (s7_11&&(!x21))
theorem Z10_l10_qe {a0:TQuery}{x4:((Sl Bs)×Bool)}  (Kb10:(Bool)->Option ((Sl Bs)×Bool)) (hend:∀(n10:Nat) (s7_11:Bool) (s20_12:Nat),Z10_j5 x4  s7_11=Kb10 s7_11):∀(n10:Nat) (s7_11:Bool) (s20_12:Nat),(0<n10/\x4.1.l.length<s20_12+n10)->Z10_l10 a0 x4 n10 s7_11 s20_12=Option.bind (Z10_q10 a0 (x4.1.l.drop s20_12) s7_11) Kb10:=by
 intro n10;induction n10 with
 | zero=>intro s7_11 s20_12 hn; exact absurd hn.1 (by omega)
 | succ n10 ih10 =>
  intro s7_11 s20_12 hn;rw [Z10_l10];by_cases hlt:s20_12<x4.1.l.length
  ·obtain⟨h10,hh10⟩:∃x,x4.1.l[s20_12]?=some x:=⟨_,List.getElem?_eq_getElem hlt⟩;rw [Q.drop_of hh10,Z10_q10];refine Q.condT (Q.ltT hlt) ?_;refine Q.bindPO hh10 fun x18 hx_x18=>?_;refine Q.bindPO (Z9_eq _ _) fun x20 hx_x20=>?_;refine Q.guardOO (Z11_eq _ _) fun x21=>?_;all_goals exact ih10 _ _ ⟨by omega,by omega⟩
  rw [List.drop_of_length_le (by omega),Z10_q10];refine Q.condF (Q.ltF hlt) ?_;exact hend n10 s7_11 s20_12
def Z10_q (a0:TQuery) (a1:(Sl TSel)):Option ((Sl Bs)×Bool):=(Z12_q a0 a1 (Sl.nil:Sl Bs)).bind fun x4=>Option.bind (Z10_q10 a0 x4.1.l x4.2) fun s7_11=>on (s7_11) fun s7_6=>some (x4.1,s7_6)
theorem Z10_eq (a0:TQuery) (a1:(Sl TSel)):Z10 a0 a1=Z10_q a0 a1:=by
 unfold Z10 Z10_q;refine Eq.trans ?_ (Q.some_bind _);refine Q.bindO (Z12_eq _ _ _) fun x4=>?_;refine Q.wrapOO fun Kb10 hKb10=>?_;refine Z10_l10_qe  Kb10 ?_ _ _ _ ⟨Nat.succ_pos _,by omega⟩;intro n10 s7_11 s20_12;refine Eq.trans ?_ (hKb10 _).symm;refine Q.wrapPO fun Kj5 hKj5=>?_;have hj5:∀(s7_6:Bool),Z10_j5 x4 s7_6=Kj5 s7_6:=by
  intro s7_6;refine Eq.trans ?_ (hKj5 _).symm;unfold Z10_j5;all_goals rfl
 all_goals exact hj5 _
def Z126_q31 (a1:TQuery):List Bs->Vars_checker->Option (Vars_checker)
 | [],y33_id16_3=>some y33_id16_3
 | h31::r31,y33_id16_3=>on (h31) fun x39=>on (Z9_q a1 x39) fun x41=>(vars_checker_sels_q y33_id16_3 x41.1.FSels x41.1.FOn x41.1.FName).bind fun x42=>Z126_q31 a1 (r31) x42
theorem Z126_l31_qe {a1:TQuery}{s20_11:Nat}{x28:((Sl Bs)×Bool)}{k_next_10:Nat->Vars_checker->Option (Sl TFault)}  (Kb31:(Vars_checker)->Option (Sl TFault)) (hend:∀(n31:Nat) (s54_32:Nat) (y33_id16_3:Vars_checker),Z126_j16 s20_11 k_next_10 y33_id16_3=Kb31 y33_id16_3):∀(n31:Nat) (s54_32:Nat) (y33_id16_3:Vars_checker),(0<n31/\x28.1.l.length<s54_32+n31)->Z126_l31 a1 s20_11 x28 k_next_10 n31 s54_32 y33_id16_3=Option.bind (Z126_q31 a1 (x28.1.l.drop s54_32) y33_id16_3) Kb31:=by
 intro n31;induction n31 with
 | zero=>intro s54_32 y33_id16_3 hn; exact absurd hn.1 (by omega)
 | succ n31 ih31 =>
  intro s54_32 y33_id16_3 hn;rw [Z126_l31];by_cases hlt:s54_32<x28.1.l.length
  ·obtain⟨h31,hh31⟩:∃x,x28.1.l[s54_32]?=some x:=⟨_,List.getElem?_eq_getElem hlt⟩;rw [Q.drop_of hh31,Z126_q31];refine Q.condT (Q.ltT hlt) ?_;refine Q.bindPO hh31 fun x39 hx_x39=>?_;refine Q.bindPO (Z9_eq _ _) fun x41 hx_x41=>?_;refine Q.bindO (vars_checker_sels_eq _ _ _ _) fun x42=>?_;all_goals exact ih31 _ _ ⟨by omega,by omega⟩
  rw [List.drop_of_length_le (by omega),Z126_q31];refine Q.condF (Q.ltF hlt) ?_;exact hend n31 s54_32 y33_id16_3
def Z126_q10 (a1:TQuery):List TOp->Nat->Vars_checker->Option (Vars_checker)
 | [],s20_11,y12_id16_3=>some y12_id16_3
 | h10::r10,s20_11,y12_id16_3=>on (h10) fun x19=>(Z128_q a1 ((s20_11:Nat):Int)).bind fun x22=>(Z130_q (Vars_checker.mk y12_id16_3.Fd x19.FVars y12_id16_3.Fout) x19 x22).bind fun x23=>on (Z96_q x19.FKind) fun x25=>(vars_checker_sels_q x23 x19.FSels x25 x19.FName).bind fun x26=>(Z10_q a1 x19.FSels).bind fun x28=>Option.bind (Z126_q31 a1 x28.1.l x26) fun y33_id16_3=>on (y33_id16_3) fun y17_id16_3=>Z126_q10 a1 (r10) (s20_11+1) y17_id16_3
theorem Z126_l10_qe {a1:TQuery}  (Kb10:(Vars_checker)->Option (Sl TFault)) (hend:∀(n10:Nat) (s20_11:Nat) (y12_id16_3:Vars_checker),Z126_j5   y12_id16_3=Kb10 y12_id16_3):∀(n10:Nat) (s20_11:Nat) (y12_id16_3:Vars_checker),(0<n10/\a1.FOps.l.length<s20_11+n10)->Z126_l10 a1 n10 s20_11 y12_id16_3=Option.bind (Z126_q10 a1 (a1.FOps.l.drop s20_11) s20_11 y12_id16_3) Kb10:=by
 intro n10;induction n10 with
 | zero=>intro s20_11 y12_id16_3 hn; exact absurd hn.1 (by omega)
 | succ n10 ih10 =>
  intro s20_11 y12_id16_3 hn;rw [Z126_l10];by_cases hlt:s20_11<a1.FOps.l.length
  ·obtain⟨h10,hh10⟩:∃x,a1.FOps.l[s20_11]?=some x:=⟨_,List.getElem?_eq_getElem hlt⟩;rw [Q.drop_of hh10,Z126_q10];refine Q.condT (Q.ltT hlt) ?_;refine Q.bindPO hh10 fun x19 hx_x19=>?_;refine Q.bindO (Z128_eq _ _) fun x22=>?_;refine Q.bindO (Z130_eq _ _ _) fun x23=>?_;refine Q.bindPO (Z96_eq _) fun x25 hx_x25=>?_;refine Q.bindO (vars_checker_sels_eq _ _ _ _) fun x26=>?_;refine Q.bindO (Z10_eq _ _) fun x28=>?_
   refine Q.wrapOO fun Kb31 hKb31=>?_;refine Z126_l31_qe  Kb31 ?_ _ _ _ ⟨Nat.succ_pos _,by omega⟩;intro n31 s54_32 y33_id16_3;refine Eq.trans ?_ (hKb31 _).symm;refine Q.wrapPO fun Kj16 hKj16=>?_;have hj16:∀(y17_id16_3:Vars_checker),Z126_j16 s20_11 (Z126_l10 a1 n10) y17_id16_3=Kj16 y17_id16_3:=by
    intro y17_id16_3;refine Eq.trans ?_ (hKj16 _).symm;unfold Z126_j16;all_goals exact ih10 _ _ ⟨by omega,by omega⟩
   all_goals exact hj16 _
  rw [List.drop_of_length_le (by omega),Z126_q10];refine Q.condF (Q.ltF hlt) ?_;exact hend n10 s20_11 y12_id16_3
def Z126_q (a0:TDoc) (a1:TQuery):Option (Sl TFault):=Option.bind (Z126_q10 a1 a1.FOps.l 0 (Vars_checker.mk a0 (Sl.nil:Sl TVar) (Sl.nil:Sl TFault))) fun y12_id16_3=>on (y12_id16_3) fun y6_id16_3=>some y6_id16_3.Fout
theorem Z126_eq (a0:TDoc) (a1:TQuery):Z126 a0 a1=Z126_q a0 a1:=by
 unfold Z126 Z126_q;refine Eq.trans ?_ (Q.some_bind _);refine Q.wrapOO fun Kb10 hKb10=>?_;refine Z126_l10_qe  Kb10 ?_ _ _ _ ⟨Nat.succ_pos _,by omega⟩;intro n10 s20_11 y12_id16_3;refine Eq.trans ?_ (hKb10 _).symm;refine Q.wrapPO fun Kj5 hKj5=>?_;have hj5:∀(y6_id16_3:Vars_checker),Z126_j5  y6_id16_3=Kj5 y6_id16_3:=by
  intro y6_id16_3;refine Eq.trans ?_ (hKj5 _).symm;unfold Z126_j5;all_goals rfl
 all_goals exact hj5 _
def Z43_q11 (a1:(Sl TFault)):List TFault->Nat->Option (Unit ⊕ Bool)
 | [],s5_12=>some (Sum.inl ())
 | h11::r11,s5_12=>on (h11) fun x19=>(a1.l[s5_12]?).bind fun x20=>bif (!(decide (x19.FErr=x20.FErr)&&((x19.FAt==x20.FAt)&&true))) then(some (Sum.inr false)) else(Z43_q11 a1 (r11) (s5_12+1) )
def Z43_q (a0:(Sl TFault)) (a1:(Sl TFault)):Option Bool:=bif (!decide (((a0.l.length:Nat):Int)=((a1.l.length:Nat):Int))) then(some false) else(Option.bind (Z43_q11 a1 a0.l 0 ) fun o11=>match o11 with|Sum.inl _=>(on (()) fun _=>some true)|Sum.inr e11=>(some e11))
def Z13_q44 (h13:TOp) (h30:Bs):List TVar->Int->Option (Int)
 | [],s8_45=>some s8_45
 | h44::r44,s8_45=>on (h13) fun x55=>on (h44) fun x56=>on (h30) fun x57=>Option.bind (bif ((x56.FName==x57)) then((addC s8_45 (1:Int)).bind fun x59=>some x59) else(some s8_45)) fun s8_53=>Z13_q44 h13 h30 (r44) s8_53
theorem Z13_l44_qe {a1:TQuery}{s5_14:Nat}{x21:(Sl Bs)}{s7_31:Nat}{k_next_30:Nat->Option Bool}{h13:TOp}(hh13:a1.FOps.l[s5_14]?=some h13){h30:Bs}(hh30:x21.l[s7_31]?=some h30) (Kb44:(Int)->Option Bool) (hend:∀(n44:Nat) (s8_45:Int) (s9_46:Nat),Z13_j38 s7_31 k_next_30 s8_45=Kb44 s8_45):∀(n44:Nat) (s8_45:Int) (s9_46:Nat),(0<n44/\h13.FVars.l.length<s9_46+n44)->Z13_l44 a1 s5_14 x21 s7_31 k_next_30 n44 s8_45 s9_46=Option.bind (Z13_q44 h13 h30 (h13.FVars.l.drop s9_46) s8_45) Kb44:=by
 intro n44;induction n44 with
 | zero=>intro s8_45 s9_46 hn; exact absurd hn.1 (by omega)
 | succ n44 ih44 =>
  intro s8_45 s9_46 hn;rw [Z13_l44];refine Q.preB hh13 fun x49 hx_x49=>?_;subst hx_x49;by_cases hlt:s9_46<x49.FVars.l.length
  ·obtain⟨h44,hh44⟩:∃x,x49.FVars.l[s9_46]?=some x:=⟨_,List.getElem?_eq_getElem hlt⟩;rw [Q.drop_of hh44,Z13_q44];refine Q.condT (Q.ltT hlt) ?_;refine Q.bindPO hh13 fun x55 hx_x55=>?_;refine Q.bindPO (by first|exact hh44|(simp only [hx_x55]; exact hh44)|(simp only [hx_x55] at hh44 ⊢; exact hh44)) fun x56 hx_x56=>?_;refine Q.bindPO hh30 fun x57 hx_x57=>?_;refine Q.wrapOO fun Kj52 hKj52=>?_;have hj52:∀(s8_53:Int),Z13_j52 s9_46 (Z13_l44 a1 s5_14 x21 s7_31 k_next_30 n44) s8_53=Kj52 s8_53:=by
    intro s8_53;refine Eq.trans ?_ (hKj52 _).symm;unfold Z13_j52;all_goals exact ih44 _ _ ⟨by omega,by omega⟩
   refine Q.condO ?_ ?_
   ·refine Q.bindO rfl fun x59=>?_;all_goals exact hj52 _
   all_goals exact hj52 _
  rw [List.drop_of_length_le (by omega),Z13_q44];refine Q.condF (Q.ltF hlt) ?_;exact hend n44 s8_45 s9_46
def Z13_q30 (h13:TOp):List Bs->Option (Unit ⊕ Bool)
 | []=>some (Sum.inl ())
 | h30::r30=>Option.bind (Z13_q44 h13 h30 h13.FVars.l (0:Int)) fun s8_45=>on (s8_45) fun s8_39=>bif (!decide (s8_39=(1:Int))) then(some (Sum.inr false)) else(on (()) fun _=>Z13_q30 h13 (r30) )
theorem Z13_l30_qe {a1:TQuery}{s5_14:Nat}{x21:(Sl Bs)}{k_next_13:Nat->Option Bool}{h13:TOp}(hh13:a1.FOps.l[s5_14]?=some h13) (Kb30:(Unit ⊕ Bool)->Option Bool) (hend:∀(n30:Nat) (s7_31:Nat),Z13_j19 s5_14 k_next_13 =Kb30 (Sum.inl ())) (hret:∀e:Bool,some e=Kb30 (Sum.inr e)):∀(n30:Nat) (s7_31:Nat),(0<n30/\x21.l.length<s7_31+n30)->Z13_l30 a1 s5_14 x21 k_next_13 n30 s7_31=Option.bind (Z13_q30 h13 (x21.l.drop s7_31) ) Kb30:=by
 intro n30;induction n30 with
 | zero=>intro s7_31 hn; exact absurd hn.1 (by omega)
 | succ n30 ih30 =>
  intro s7_31 hn;rw [Z13_l30];by_cases hlt:s7_31<x21.l.length
  ·obtain⟨h30,hh30⟩:∃x,x21.l[s7_31]?=some x:=⟨_,List.getElem?_eq_getElem hlt⟩;rw [Q.drop_of hh30,Z13_q30];refine Q.condT (Q.ltT hlt) ?_;refine Q.wrapOO fun Kb44 hKb44=>?_;refine Z13_l44_qe hh13 hh30 Kb44 ?_ _ _ _ ⟨by rw [hh13]; exact Nat.succ_pos _,by rw [hh13]; simp only [Option.elim]; omega⟩;intro n44 s8_45 s9_46;refine Eq.trans ?_ (hKb44 _).symm;refine Q.wrapPO fun Kj38 hKj38=>?_;have hj38:∀(s8_39:Int),Z13_j38 s7_31 (Z13_l30 a1 s5_14 x21 k_next_13 n30) s8_39=Kj38 s8_39:=by
    intro s8_39;refine Eq.trans ?_ (hKj38 _).symm;unfold Z13_j38;refine Q.condO ?_ ?_
    ·all_goals exact hret _
    refine Q.wrapPO fun Kj36 hKj36=>?_;have hj36:Z13_j36 s7_31 (Z13_l30 a1 s5_14 x21 k_next_13 n30) =Kj36 ():=by
     refine Eq.trans ?_ (hKj36 _).symm;unfold Z13_j36;all_goals exact ih30 _ ⟨by omega,by omega⟩
    all_goals exact hj36
   all_goals exact hj38 _
  rw [List.drop_of_length_le (by omega),Z13_q30];refine Q.condF (Q.ltF hlt) ?_;exact hend n30 s7_31
def Z13_q13 (a1:TQuery):List TOp->Nat->Option (Unit ⊕ Bool)
 | [],s5_14=>some (Sum.inl ())
 | h13::r13,s5_14=>(Z128_q a1 ((s5_14:Nat):Int)).bind fun x21=>on (h13) fun x25=>bif (!decide (((x21.l.length:Nat):Int)=((x25.FVars.l.length:Nat):Int))) then(some (Sum.inr false)) else(Option.bind (Z13_q30 h13 x21.l ) fun o30=>match o30 with|Sum.inl _=>(on (()) fun _=>Z13_q13 a1 (r13) (s5_14+1) )|Sum.inr e30=>(some (Sum.inr e30)))
theorem Z13_l13_qe {a1:TQuery}  (Kb13:(Unit ⊕ Bool)->Option Bool) (hend:∀(n13:Nat) (s5_14:Nat),Z13_j9   =Kb13 (Sum.inl ())) (hret:∀e:Bool,some e=Kb13 (Sum.inr e)):∀(n13:Nat) (s5_14:Nat),(0<n13/\a1.FOps.l.length<s5_14+n13)->Z13_l13 a1 n13 s5_14=Option.bind (Z13_q13 a1 (a1.FOps.l.drop s5_14) s5_14 ) Kb13:=by
 intro n13;induction n13 with
 | zero=>intro s5_14 hn; exact absurd hn.1 (by omega)
 | succ n13 ih13 =>
  intro s5_14 hn;rw [Z13_l13];by_cases hlt:s5_14<a1.FOps.l.length
  ·obtain⟨h13,hh13⟩:∃x,a1.FOps.l[s5_14]?=some x:=⟨_,List.getElem?_eq_getElem hlt⟩;rw [Q.drop_of hh13,Z13_q13];refine Q.condT (Q.ltT hlt) ?_;refine Q.bindO (Z128_eq _ _) fun x21=>?_;refine Q.bindPO hh13 fun x25 hx_x25=>?_;refine Q.condO ?_ ?_
   ·all_goals exact hret _
   refine Q.wrapOO fun Kb30 hKb30=>?_;refine Z13_l30_qe hh13 Kb30 ?_ ?_ _ _ ⟨Nat.succ_pos _,by omega⟩
   ·intro n30 s7_31;refine Eq.trans ?_ (hKb30 _).symm;try dsimp only
    refine Q.wrapPO fun Kj19 hKj19=>?_;have hj19:Z13_j19 s5_14 (Z13_l13 a1 n13) =Kj19 ():=by
     refine Eq.trans ?_ (hKj19 _).symm;unfold Z13_j19;all_goals exact ih13 _ ⟨by omega,by omega⟩
    all_goals exact hj19
   intro e30;refine Eq.trans ?_ (hKb30 _).symm;try dsimp only
   all_goals exact hret _
  rw [List.drop_of_length_le (by omega),Z13_q13];refine Q.condF (Q.ltF hlt) ?_;exact hend n13 s5_14
def Z13_q (a0:TDoc) (a1:TQuery):Option Bool:=(Z15_q a0 a1).bind fun x4=>guardO (!(!x4)) (Z126_q a0 a1) (Sl.nil:Sl TFault) fun x5=>bif ((!x4)||(decide ((0:Int)<((x5.l.length:Nat):Int)))) then((Z14).bind fun x8=>some x8) else(Option.bind (Z13_q13 a1 a1.FOps.l 0 ) fun o13=>match o13 with|Sum.inl _=>(on (()) fun _=>(Z14).bind fun x11=>some x11)|Sum.inr e13=>(some e13))
theorem Z13_eq (a0:TDoc) (a1:TQuery):Z13 a0 a1=Z13_q a0 a1:=by
 unfold Z13 Z13_q;refine Eq.trans ?_ (Q.some_bind _);refine Q.bindO (Z15_eq _ _) fun x4=>?_;refine Q.guardOO (Z126_eq _ _) fun x5=>?_;refine Q.condO ?_ ?_
 ·refine Q.bindO rfl fun x8=>?_;all_goals rfl
 refine Q.wrapOO fun Kb13 hKb13=>?_;refine Z13_l13_qe  Kb13 ?_ ?_ _ _ ⟨Nat.succ_pos _,by omega⟩
 ·intro n13 s5_14;refine Eq.trans ?_ (hKb13 _).symm;try dsimp only
  refine Q.wrapPO fun Kj9 hKj9=>?_;have hj9:Z13_j9  =Kj9 ():=by
   refine Eq.trans ?_ (hKj9 _).symm;unfold Z13_j9;refine Q.bindO rfl fun x11=>?_;all_goals rfl
  all_goals exact hj9
 intro e13;refine Eq.trans ?_ (hKb13 _).symm;try dsimp only
 all_goals rfl
end Go.Proofs

namespace Go.Proofs
open Go Go.Ab
def Tl {α:Type}(o:Option (Sl α)) (b:Nat):Prop:=∃r,o=some r/\r.l.length<=b
theorem Tl.mono {α:Type}{o:Option (Sl α)}{a b:Nat}(h:Tl o a) (hb:a<=b):Tl o b:=by obtain⟨r,h1,h2⟩:=h; exact⟨r,h1,by omega⟩
theorem app24 {s r:Sl TFault}(h:s.l.length+r.l.length<=1073741824):∃v,appC 24 s r=some v/\v.l.length=s.l.length+r.l.length:=⟨_,appC_ok (by decide) (by omega),by simp⟩
theorem Tl.add1 {s:Sl TFault}{x:TFault}{b:Nat}(h:s.l.length<=b) (hb:b<=1000000000):Tl ((appC 24 s (⟨false,[x]⟩:Sl TFault)).bind fun y=>some y) (b+1):=by
 obtain⟨v,h1,h2⟩:=app24 (s:=s) (r:=⟨false,[x]⟩) (by simp; omega);exact⟨v,by rw [h1]; rfl,by rw [h2]; simp; omega⟩
theorem Tl.bind {α β:Type}{o:Option (Sl α)}{k:Sl α->Option (Sl β)}{a b:Nat}(h:Tl o a) (hk:∀r:Sl α,r.l.length<=a->Tl (k r) b):Tl (o.bind k) b:=by
 obtain⟨r,h1,h2⟩:=h;rw [h1]; exact hk r h2
theorem Bs.len_le (s:Bs):s.length<=Bs.sz s:=Nat.le_succ _
theorem reserved_ok (s:Bs):∃v,Z17_q s=some v:=by
 unfold Z17_q
 match s with
 | []=>exact⟨_,rfl⟩
 | [a]=>exact⟨_,rfl⟩
 | a::b::r =>
  rw [show decide ((2:Int)<=(((a::b::r:Bs).length:Nat):Int))=true from decide_eq_true (by simp only [List.length_cons]; omega)];simp only [guardO,if_true,List.getElem?_cons_zero,List.getElem?_cons_succ,Option.bind_some,Bool.true_and]
  split<;>exact⟨_,rfl⟩
theorem allowed_ok (s:Bs):∃v,Z52_q s=some v:=by
 unfold Z52_q;simp only [Ab.on];cases Z16_q s
 ·exact⟨_,rfl⟩
 ·obtain⟨v,hv⟩:=reserved_ok s;simp only [guardO,if_true,hv];exact⟨_,rfl⟩
theorem names_tl (a:Bs) (b c:Bool) (d:Bs):Tl (Z61_q a b c d) 2:=by
 unfold Z61_q;obtain⟨v,hv⟩:=allowed_ok a;have h1:∀z:Bool,Tl (bif z then((appC 24 (Sl.nil:Sl TFault) (⟨false,[(TFault.mk (6:Int) d)]⟩:Sl TFault)).bind fun x14=>some x14) else(some (Sl.nil:Sl TFault))) 1:=by
  intro z;cases z
  ·exact⟨Sl.nil,rfl,by simp [Sl.nil]⟩
  ·exact Tl.add1 (s:=Sl.nil) (b:=0) (Nat.le_refl _) (by omega)
 have h2:∀z,Tl (Option.bind (bif z then((appC 24 (Sl.nil:Sl TFault) (⟨false,[(TFault.mk (6:Int) d)]⟩:Sl TFault)).bind fun x14=>some x14) else(some (Sl.nil:Sl TFault))) fun s9_4=>Option.bind (bif c then((appC 24 s9_4 (⟨false,[(TFault.mk (7:Int) d)]⟩:Sl TFault)).bind fun x10=>some x10) else(some s9_4)) fun s9_6=>some s9_6) 2:=by
  intro z;refine(h1 z).bind fun r hr=>?_;cases c
  ·exact⟨r,rfl,by omega⟩
  ·refine(Tl.add1 hr (by omega)).bind fun q hq=>⟨q,rfl,by omega⟩
 cases b
 ·simp only [guardO,Bool.not_false,if_true,hv,Option.bind_some]; exact h2 _
 ·exact h2 true
theorem Tl.appT {s:Sl TFault}{o:Option (Sl TFault)}{a b c:Nat}{k:Sl TFault->Option (Sl TFault)}(hs:s.l.length<=a) (h:Tl o b) (hb:a+b<=1000000000) (hk:∀r:Sl TFault,r.l.length<=a+b->Tl (k r) c):Tl (o.bind fun x=>(appC 24 s x).bind k) c:=by
 obtain⟨r,h1,h2⟩:=h;obtain⟨v,h3,h4⟩:=app24 (s:=s) (r:=r) (by omega);rw [h1,Option.bind_some,h3,Option.bind_some];exact hk v (by omega)
theorem inputs_loop (d:TDoc) (a1:Sl TInput) (p q:Bs) (hp:p.length<=10000000) (hq:q.length<=10):∀(l:List TInput) (i:Nat) (s:Sl TFault),(∀x∈l,x.FName.length<=1048576)->s.l.length+3*l.length<=900000000->Tl (Z58_q7 d a1 p q l i s) (s.l.length+3*l.length)
 | [],i,s,_,_=>⟨s,rfl,by simp⟩
 | x::l,i,s,hx,hs=>by
  have hn:=hx x (.head _);simp only [List.length_cons] at hs;rw [Z58_q7];simp only [Ab.on];rw [catC_ok (by omega),Option.bind_some,catC_ok (by simp; omega),Option.bind_some];refine Tl.appT (Nat.le_refl _) (names_tl _ _ _ _) (by omega) fun r hr=>?_;have key:∀(y:TFault),Tl (Option.bind ((appC 24 r (⟨false,[y]⟩:Sl TFault)).bind fun z=>some z) fun s9_15=>Z58_q7 d a1 p q l (i+1) s9_15) (s.l.length+3*(l.length+1)):=by
   intro y;refine(Tl.add1 hr (by omega)).bind fun v hv=>?_;exact(inputs_loop d a1 p q hp hq l (i+1) v (fun z hz=>hx z (.tail _ hz)) (by omega)).mono (by omega)
  rw [List.length_cons];cases Z59_q d x.FType.FName
  ·exact key _
  ·cases Z47_q d x.FType.FName
   ·exact key _
   ·exact(inputs_loop d a1 p q hp hq l (i+1) r (fun z hz=>hx z (.tail _ hz)) (by omega)).mono (by omega)
theorem inputs_tl (d:TDoc) (a1:Sl TInput) (p q:Bs) (hp:p.length<=10000000) (hq:q.length<=10) (h1:Sl.sz TInput.sz a1<=1048576):Tl (Z58_q d a1 p q) (3*a1.l.length):=by
 unfold Z58_q;have hl:=Sl.len_le (f:=TInput.sz) a1 (fun x=>TInput.pos x);have:=inputs_loop d a1 p q hp hq a1.l 0 Sl.nil (fun x hx=>by
  have h2:=Sl.mem_le (f:=TInput.sz) hx;have h3:=x.sz_def;have h4:x.FName.length<=Bs.sz x.FName:=Bs.len_le _;omega) (by simp [Sl.nil]; omega)
 obtain⟨r,h2,h3⟩:=this;rw [h2];exact⟨r,rfl,by simpa [Sl.nil] using h3⟩
theorem fields_loop (d:TDoc) (a1:TDef) (ha:a1.FName.length<=1048576):∀(l:List TField) (i:Nat) (s:Sl TFault),(l.map TField.sz).sum<=1048576->s.l.length+3*(l.map TField.sz).sum<=900000000->Tl (Z56_q7 d a1 l i s) (s.l.length+3*(l.map TField.sz).sum)
 | [],i,s,_,_=>⟨s,rfl,by simp⟩
 | x::l,i,s,hx,hs=>by
  simp only [List.map_cons,List.sum_cons] at hx hs;have h3:=x.sz_def;have h4:x.FName.length<=Bs.sz x.FName:=Bs.len_le _;have h5:=Sl.len_le (f:=TInput.sz) x.FArgs (fun x=>TInput.pos x);have h6:=Bs.sz_pos x.FName;rw [Z56_q7];simp only [Ab.on];rw [catC_ok (by simp; omega),Option.bind_some,catC_ok (by simp; omega),Option.bind_some];refine Tl.appT (Nat.le_refl _) (names_tl _ _ _ _) (by omega) fun r hr=>?_
  have rest:∀v:Sl TFault,v.l.length<=s.l.length+3->Tl ((catC (a1.FName++[46]++x.FName) ([40]:Bs)).bind fun x31=>(Z58_q d x.FArgs x31 ([41]:Bs)).bind fun x32=>(appC 24 v x32).bind fun x33=>Z56_q7 d a1 l (i+1) x33) (s.l.length+3*(x.sz+(l.map TField.sz).sum)):=by
   intro v hv;rw [catC_ok (by simp; omega),Option.bind_some];refine Tl.appT hv (inputs_tl d x.FArgs _ _ (by simp; omega) (by simp) (by omega)) (by omega) fun w hw=>?_;exact(fields_loop d a1 ha l (i+1) w (by omega) (by omega)).mono (by omega)
  have key:∀(y:TFault),Tl (Option.bind ((appC 24 r (⟨false,[y]⟩:Sl TFault)).bind fun z=>some z) fun s5_30=>(catC (a1.FName++[46]++x.FName) ([40]:Bs)).bind fun x31=>(Z58_q d x.FArgs x31 ([41]:Bs)).bind fun x32=>(appC 24 s5_30 x32).bind fun x33=>Z56_q7 d a1 l (i+1) x33) (s.l.length+3*(x.sz+(l.map TField.sz).sum)):=by
   intro y;exact(Tl.add1 hr (by omega)).bind fun v hv=>rest v (by omega)
  simp only [List.map_cons,List.sum_cons];cases Z59_q d x.FType.FName
  ·exact key _
  ·cases hz:((!Z51_q x.FType.FName)&&(Z45_q d x.FType.FName).2)&&decide ((Z45_q d x.FType.FName).1.FKind=5)
   ·exact rest r (by omega)
   ·exact key _
theorem fields_tl (d:TDoc) (a1:TDef) (h:a1.sz<=1048576):Tl (Z56_q d a1) (3*a1.sz):=by
 unfold Z56_q;have h3:=a1.sz_def;have h4:a1.FName.length<=Bs.sz a1.FName:=Bs.len_le _;have h5:Sl.sz TField.sz a1.FFields=1+(a1.FFields.l.map TField.sz).sum:=rfl;obtain⟨r,h1,h2⟩:=fields_loop d a1 (by omega) a1.FFields.l 0 Sl.nil (by omega) (by simp [Sl.nil]; omega);rw [h1];exact⟨r,rfl,by simp [Sl.nil] at h2; omega⟩
theorem again_ok (a:TDef) (x:TMember):∀(n i:Nat) (b:Bool),i+n<=a.FMembers.l.length->∃v,Z60_q26 a x n i b=some v
 | 0,_,b,_=>⟨b,rfl⟩
 | n+1,i,b,h=>by
  rw [Z60_q26];cases b
  ·simp only [guardO,Bool.not_false,if_true];rw [List.getElem?_eq_getElem (show i<a.FMembers.l.length by omega),Option.bind_some];exact again_ok a x n (i+1) _ (by omega)
  ·simp only [guardO,Bool.not_true];exact again_ok a x n (i+1) _ (by omega)
theorem members_loop (a:TDef) (ha:a.FName.length<=1048576):∀(l:List TMember) (i:Nat) (s:Sl TFault),(∀x∈l,x.FName.length<=1048576)->i+l.length=a.FMembers.l.length->s.l.length+2*l.length<=900000000->Tl (Z60_q7 a l i s) (s.l.length+2*l.length)
 | [],i,s,_,_,_=>⟨s,rfl,by simp⟩
 | x::l,i,s,hx,hi,hs=>by
  have hn:=hx x (.head _);simp only [List.length_cons] at hs hi;rw [Z60_q7];simp only [Ab.on];obtain⟨v,hv⟩:=again_ok a x i 0 false (by omega);rw [hv,Option.bind_some,catC_ok (by simp; omega),Option.bind_some,catC_ok (by simp; omega),Option.bind_some];refine Tl.appT (Nat.le_refl _) (names_tl _ _ _ _) (by omega) fun r hr=>?_;exact(members_loop a ha l (i+1) r (fun z hz=>hx z (.tail _ hz)) (by omega) (by omega)).mono (by simp only [List.length_cons]; omega)
theorem members_tl (a:TDef) (h:a.sz<=1048576):Tl (Z60_q a) (3*a.sz):=by
 unfold Z60_q;have h3:=a.sz_def;have h4:a.FName.length<=Bs.sz a.FName:=Bs.len_le _;have h5:=Sl.len_le (f:=TMember.sz) a.FMembers (fun x=>TMember.pos x);obtain⟨r,h1,h2⟩:=members_loop a (by omega) a.FMembers.l 0 Sl.nil (fun x hx=>by
  have h6:=Sl.mem_le (f:=TMember.sz) hx;have h7:=x.sz_def;have h8:x.FName.length<=Bs.sz x.FName:=Bs.len_le _;omega) (by simp) (by simp [Sl.nil]; omega)
 rw [h1];exact⟨r,rfl,by simp [Sl.nil] at h2; omega⟩
def left (U s:List Bs):Nat:=(U.filter fun x=>!s.contains x).length
theorem left_add {U s:List Bs}{x:Bs}(hU:x∈U) (hs:s.contains x=false):left U (s++[x])+1<=left U s:=by
 have mono:∀l:List Bs,(l.filter fun y=>!(s++[x]).contains y).length<=(l.filter fun y=>!s.contains y).length:=by
  intro l;induction l with
  | nil=>simp
  | cons a r ih =>
   have ha:s.contains a=true->(s++[x]).contains a=true:=by
    intro h;simp only [List.contains_eq_mem,decide_eq_true_eq,List.mem_append] at h ⊢;exact .inl h
   cases h1:s.contains a
   ·cases h2:(s++[x]).contains a
    ·rw [List.filter_cons_of_pos (by rw [h2]; rfl),List.filter_cons_of_pos (by rw [h1]; rfl)];simp only [List.length_cons]; omega
    ·rw [List.filter_cons_of_neg (by rw [h2]; decide),List.filter_cons_of_pos (by rw [h1]; rfl)];simp only [List.length_cons]; omega
   ·rw [List.filter_cons_of_neg (by rw [ha h1]; decide),List.filter_cons_of_neg (by rw [h1]; decide)]; exact ih
 unfold left;obtain⟨a,b,rfl⟩:=List.append_of_mem hU;rw [List.filter_append,List.filter_append,List.length_append,List.length_append];have hx:(s++[x]).contains x=true:=by simp
 rw [List.filter_cons_of_neg (by rw [hx]; decide),List.filter_cons_of_pos (by rw [hs]; rfl)];have h1:=mono a;have h2:=mono b;simp only [List.length_cons]; omega
def inNames (d:TDef):List Bs:=d.FInputs.l.map fun x=>x.FType.FName
def docNames (d:TDoc):List Bs:=d.FDefs.l.flatMap inNames
theorem docNames_len (d:TDoc):(docNames d).length<=d.sz:=by
 have h1:=d.sz_def;have h2:Sl.sz TDef.sz d.FDefs=1+(d.FDefs.l.map TDef.sz).sum:=rfl;have:∀l:List TDef,(l.flatMap inNames).length<=(l.map TDef.sz).sum:=by
  intro l;induction l with
  | nil=>simp
  | cons a r ih =>
   have h3:=a.sz_def;have h5:=Sl.len_le (f:=TInput.sz) a.FInputs (fun x=>TInput.pos x);simp only [List.flatMap_cons,List.length_append,List.map_cons,List.sum_cons];have:(inNames a).length=a.FInputs.l.length:=by unfold inNames; rw [List.length_map]
   omega
 have:=this d.FDefs.l;unfold docNames; omega
theorem has_false:∀(l:List Bs) (x:Bs),(match Z57_q5 x l with|Sum.inl _=>false|Sum.inr e=>e)=l.contains x
 | [],_=>rfl
 | a::r,x=>by
  rw [Z57_q5,List.contains_cons];simp only [Ab.on];by_cases h:a=x
  ·subst h; simp
  ·have h2:(a==x)=false:=by simpa using h
   have h3:(x==a)=false:=by simpa using fun e=>h e.symm
   rw [h2,h3,cond_false,Bool.false_or]; exact has_false r x
theorem direct_ok (t:TRef):∃b,Z54_q t=some b:=by
 unfold Z54_q;by_cases h:t.FWraps.l.length=1
 ·rw [show decide (((t.FWraps.l.length:Nat):Int)=1)=true from decide_eq_true (by omega)];simp only [guardO,if_true];rw [List.getElem?_eq_getElem (show 0<t.FWraps.l.length by omega)];exact⟨_,rfl⟩
 ·rw [show decide (((t.FWraps.l.length:Nat):Int)=1)=false from decide_eq_false (by omega)];exact⟨_,rfl⟩
def Vs (U:List Bs) (M:Nat) (s:Sl Bs):Prop:=s.l.length+left U s.l<=M
theorem next_loop (d:TDoc) (c:Bs) (U:List Bs) (M:Nat) (hM:M<=2000000):∀(l:List TInput) (s:Sl Bs),(∀x∈l,x.FType.FName∈U)->Vs U M s->∃r,Z62_q6 d c l s=some r/\Vs U M r/\s.l.length<=r.l.length
 | [],s,_,h=>⟨s,rfl,h,Nat.le_refl _⟩
 | x::l,s,hx,h=>by
  have hn:=hx x (.head _);have hx':∀z∈l,z.FType.FName∈U:=fun z hz=>hx z (.tail _ hz);obtain⟨b,hb⟩:=direct_ok x.FType;rw [Z62_q6];simp only [Ab.on];rw [hb,Option.bind_some];generalize (b&&((x.FType.FName==c)||((Z45_q d x.FType.FName).2&&decide ((Z45_q d x.FType.FName).1.FKind=5))))=w;have hq:Z57_q s x.FType.FName=s.l.contains x.FType.FName:=by
   rw [<- has_false]; unfold Z57_q; simp only [Ab.on];cases Z57_q5 x.FType.FName s.l<;>rfl
  cases w
  ·exact next_loop d c U M hM l s hx' h
  ·rw [cond_true,hq];cases hc:s.l.contains x.FType.FName
   ·unfold Vs at h;have hl:=left_add hn hc;simp only [Bool.not_false,Bool.and_self,cond_true];rw [appC_ok (by decide) (by simp; omega),Option.bind_some,Option.bind_some];obtain⟨r,h1,h2,h3⟩:=next_loop d c U M hM l ⟨s.nl&&([x.FType.FName]:List Bs).isEmpty,s.l++[x.FType.FName]⟩ hx' (by unfold Vs; simp only [List.length_append,List.length_cons,List.length_nil]; omega);exact⟨r,h1,h2,by simp only [List.length_append,List.length_cons,List.length_nil] at h3; omega⟩
   ·exact next_loop d c U M hM l s hx' h
theorem find_in (d:TDoc) (n:Bs):(Z45_q d n).1∈d.FDefs.l\/(Z45_q d n).1.FInputs.l=[]:=by
 unfold Z45_q;simp only [Ab.on];have:∀l:List TDef,(match Z45_q6 n l with|Sum.inl _=>True|Sum.inr e=>e.1∈l):=by
  intro l;induction l with
  | nil=>exact trivial
  | cons a r ih =>
   rw [Z45_q6];simp only [Ab.on];cases hq:a.FName==n
   ·simp only [cond_false]
    revert ih
    cases Z45_q6 n r with
    | inl u=>intro _; exact trivial
    | inr e=>intro ih; exact .tail _ ih
   ·exact .head _
 have h:=this d.FDefs.l
 revert h
 cases Z45_q6 n d.FDefs.l with
 | inl u=>intro _; exact .inr rfl
 | inr e=>intro h; exact .inl h
theorem names_in {d:TDoc}{a:TDef}(h:a∈d.FDefs.l\/a.FInputs.l=[]):∀x∈a.FInputs.l,x.FType.FName∈docNames d:=by
 intro x hx;rcases h with h|h
 ·exact List.mem_flatMap.2 ⟨a,h,List.mem_map.2 ⟨x,hx,rfl⟩⟩
 ·rw [h] at hx; cases hx
theorem circ_loop (d:TDoc) (a:TDef) (hM:(docNames d).length<=1048576):∀(n i:Nat) (s:Sl Bs),Vs (docNames d) (docNames d).length s->i<=s.l.length->(docNames d).length+1<=n+i->∃b,Z53_l13 d a n s i=some b
 | 0,i,s,h,hi,hn=>by unfold Vs at h; omega
 | n+1,i,s,h,hi,hn=>by
  rw [Z53_l13];by_cases hlt:i<s.l.length
  ·rw [show decide (((i:Nat):Int)<((s.l.length:Nat):Int))=true from decide_eq_true (by omega),cond_true,List.getElem?_eq_getElem hlt,Option.bind_some,Z45_eq,Option.bind_some,Z62_eq];unfold Z62_q;obtain⟨r,h1,h2,h3⟩:=next_loop d a.FName (docNames d) (docNames d).length (by omega) _ s (names_in (find_in d s.l[i])) h;rw [h1,Option.bind_some];simp only [Ab.on,Option.bind_some];exact circ_loop d a hM n (i+1) r h2 (by omega) (by omega)
  ·rw [show decide (((i:Nat):Int)<((s.l.length:Nat):Int))=false from decide_eq_false (by omega),cond_false];unfold Z53_j8;rw [Z57_eq];exact⟨_,rfl⟩
theorem circular_ok {d:TDoc}(hd:d.sz<=1048576){a:TDef}(ha:a∈d.FDefs.l):∃b,Z53 d a=some b:=by
 have hM:=docNames_len d;unfold Z53;cases hk:(!decide (a.FKind=(5:Int)))
 ·rw [cond_false,Z62_eq];unfold Z62_q;have h0:Vs (docNames d) (docNames d).length Sl.nil:=by
   unfold Vs left;have:=List.length_filter_le (fun x=>!(Sl.nil:Sl Bs).l.contains x) (docNames d);simp only [Sl.nil,List.length_nil] at this ⊢; omega
  obtain⟨r,h1,h2,h3⟩:=next_loop d a.FName (docNames d) (docNames d).length (by omega) a.FInputs.l Sl.nil (names_in (.inl ha)) h0;rw [h1,Option.bind_some];simp only [Ab.on,Option.bind_some];exact circ_loop d a (by omega) F0 0 r h2 (by omega) (by rw [F0_eq]; omega)
 ·exact⟨false,rfl⟩
theorem j15_tl {s:Sl TFault}{b:Nat}(h:s.l.length<=b):Tl (Z63_j15 s) b:=⟨s,rfl,h⟩
theorem j13_tl {d:TDoc}(hd:d.sz<=1048576){a:TDef}(ha:a∈d.FDefs.l){s:Sl TFault}{b:Nat}(h:s.l.length<=b) (hb:b<=1000):Tl (Z63_j13 d a s) (b+1):=by
 unfold Z63_j13;obtain⟨v,hv⟩:=circular_ok hd ha;rw [hv,Option.bind_some];cases v
 ·exact(j15_tl h).mono (by omega)
 ·obtain⟨w,h1,h2⟩:=app24 (s:=s) (r:=⟨false,[TFault.mk (5:Int) a.FName]⟩) (by simp; omega);rw [cond_true,h1,Option.bind_some];exact j15_tl (by rw [h2]; simp; omega)
theorem j10_tl {d:TDoc}(hd:d.sz<=1048576){a:TDef}(ha:a∈d.FDefs.l){s:Sl TFault}{b:Nat}(h:s.l.length<=b) (hb:b<=900):Tl (Z63_j10 d a s) (b+2):=by
 unfold Z63_j10;generalize (((((((a.FName==([81,117,101,114,121]:Bs)))||((a.FName==([77,117,116,97,116,105,111,110]:Bs))))||((a.FName==([83,117,98,115,99,114,105,112,116,105,111,110]:Bs))))&&(!decide (a.FKind=(1:Int))))||(decide (a.FKind<(1:Int))))||(decide ((5:Int)<a.FKind)))=w;cases w
 ·exact(j13_tl hd ha h (by omega)).mono (by omega)
 ·obtain⟨w,h1,h2⟩:=app24 (s:=s) (r:=⟨false,[TFault.mk (9:Int) a.FName]⟩) (by simp; omega);rw [cond_true,h1,Option.bind_some];exact(j13_tl (b:=b+1) hd ha (by rw [h2]; simp; omega) (by omega)).mono (by omega)
theorem j6_tl {d:TDoc}(hd:d.sz<=1048576){a:TDef}(ha:a∈d.FDefs.l) (t:Bool):Tl (Z63_j6 d a t) 5:=by
 unfold Z63_j6;rw [Z61_eq];refine(names_tl _ _ _ _).bind fun r hr=>?_;rw [Z55_eq,Option.bind_some];cases Z55_q a
 ·exact(j10_tl hd ha hr (by omega)).mono (by omega)
 ·obtain⟨w,h1,h2⟩:=app24 (s:=r) (r:=⟨false,[TFault.mk (8:Int) a.FName]⟩) (by simp; omega);rw [cond_true,h1,Option.bind_some];exact j10_tl (b:=3) hd ha (by rw [h2]; simp; omega) (by omega)
theorem l30_tl {d:TDoc}(hd:d.sz<=1048576){a:TDef}(ha:a∈d.FDefs.l) (N:Nat) (hN:N<=d.FDefs.l.length) (hl:d.FDefs.l.length<=1048576):∀(n i:Nat) (t:Bool),i<=N->N-i<n->Tl (Z63_l30 d ((N:Nat):Int) a n t (i:Int)) 5
 | 0,_,_,_,h=>by omega
 | n+1,i,t,hi,hn=>by
  rw [Z63_l30];by_cases hlt:i<N
  ·have one:addC (i:Int) 1=some (((i+1:Nat)):Int):=by rw [addC_ok (by omega)]; rfl
   have hidx:idxC d.FDefs.l (i:Int)=some (d.FDefs.l[i]'(by omega)):=by
    unfold idxC; rw [if_pos (by omega),Int.toNat_natCast,List.getElem?_eq_getElem (show i<d.FDefs.l.length by omega)]
   rw [show decide ((i:Int)<((N:Nat):Int))=true from decide_eq_true (by omega),cond_true,one,hidx];cases t
   ·exact l30_tl hd ha N hN hl n (i+1) _ (by omega) (by omega)
   ·exact l30_tl hd ha N hN hl n (i+1) _ (by omega) (by omega)
  ·rw [show decide ((i:Int)<((N:Nat):Int))=false from decide_eq_false (by omega),cond_false];exact j6_tl hd ha t
theorem whole_tl {d:TDoc}(hd:d.sz<=1048576){i:Nat}(hi:i<d.FDefs.l.length):Tl (Z63_q d ((i:Nat):Int)) 5:=by
 have h1:=d.sz_def;have h2:=Sl.len_le (f:=TDef.sz) d.FDefs (fun x=>TDef.pos x);show Tl (Z63 d ((i:Nat):Int)) 5;unfold Z63;have hidx:idxC d.FDefs.l (i:Int)=some (d.FDefs.l[i]):=by
  unfold idxC; rw [if_pos (by omega),Int.toNat_natCast,List.getElem?_eq_getElem hi]
 rw [hidx,Option.bind_some,Z51_eq,Option.bind_some];exact l30_tl hd (List.getElem_mem hi) i (by omega) (by omega) F0 0 _ (by omega) (by rw [F0_eq]; omega)
theorem check_loop {d:TDoc}(hd:d.sz<=1048576):∀(l:List TDef) (i:Nat) (s:Sl TFault),d.FDefs.l.drop i=l->s.l.length+8*(l.map TDef.sz).sum<=900000000->Tl (Z41_q14 d l i s) (s.l.length+8*(l.map TDef.sz).sum)
 | [],i,s,_,_=>⟨s,rfl,by simp⟩
 | x::l,i,s,hl,hs=>by
  have hi:i<d.FDefs.l.length:=by
   have:=congrArg List.length hl;simp only [List.length_drop,List.length_cons] at this; omega
  have hx:x∈d.FDefs.l:=List.mem_of_mem_drop (i:=i) (by rw [hl]; exact .head _);have hd':d.FDefs.l.drop (i+1)=l:=by rw [<- List.drop_drop,hl]; rfl
  have h1:=Sl.mem_le (f:=TDef.sz) hx;have h2:=d.sz_def;have h3:=x.sz_def;have h4:=Bs.len_le x.FName;have h5:=Bs.sz_pos x.FName;have h6:=Sl.len_le (f:=TInput.sz) x.FInputs (fun x=>TInput.pos x);simp only [List.map_cons,List.sum_cons] at hs ⊢;rw [Z41_q14];simp only [Ab.on];refine Tl.appT (Nat.le_refl _) (whole_tl hd hi) (by omega) fun r hr=>?_;have rest:∀(o:Option (Sl TFault)),Tl o (s.l.length+5+3*x.sz)->Tl (o.bind fun v=>Z41_q14 d l (i+1) v) (s.l.length+8*(x.sz+(l.map TDef.sz).sum)):=by
   intro o ho;refine ho.bind fun v hv=>?_;exact(check_loop hd l (i+1) v hd' (by omega)).mono (by omega)
  have fin:∀{o:Option (Sl TFault)}{b:Nat},Tl o b->b<=3*x.sz->Tl (o.bind fun v=>(appC 24 r v).bind fun w=>some w) (s.l.length+5+3*x.sz):=by
   intro o b ho hb;exact Tl.appT hr ho (by omega) fun w hw=>⟨w,rfl,by omega⟩
  refine rest _ ?_;cases (bif decide (x.FKind=1) then decide (x.FKind=1) else decide (x.FKind=2))
  ·rw [cond_false];cases decide (x.FKind=4)
   ·rw [cond_false];cases decide (x.FKind=5)
    ·exact⟨r,rfl,by omega⟩
    ·rw [cond_true,catC_ok (by simp; omega),Option.bind_some];exact fin (inputs_tl d x.FInputs _ _ (by simp; omega) (by simp) (by omega)) (by omega)
   ·exact fin (members_tl x (by omega)) (by omega)
  ·exact fin (fields_tl d x (by omega)) (by omega)
theorem check_tl {d:TDoc}(hd:d.sz<=1048576) (b:Bool):Tl (Z41_q d b) 9000000:=by
 unfold Z41_q;have h2:=d.sz_def;have h3:Sl.sz TDef.sz d.FDefs=1+(d.FDefs.l.map TDef.sz).sum:=rfl;refine Tl.bind (a:=8*(d.FDefs.l.map TDef.sz).sum) ?_ fun r hr=>?_
 ·obtain⟨r,h4,h5⟩:=check_loop hd d.FDefs.l 0 Sl.nil rfl (by simp [Sl.nil]; omega);exact⟨r,h4,by simp [Sl.nil] at h5; omega⟩
 ·simp only [Ab.on];cases (b&&(!(Z45_q d ([81,117,101,114,121]:Bs)).2))
  ·exact⟨r,rfl,by omega⟩
  ·refine(Tl.add1 hr (by omega)).bind fun v hv=>⟨v,rfl,by omega⟩
end Go.Proofs

namespace Go.Proofs
open Go Go.Ab
theorem first_loop (d:TDoc) (N:Nat) (hN:N<d.FDefs.l.length) (hl:d.FDefs.l.length<=1048576):∀(n i:Nat),i<=N->N-i<n->∃b,Z70_l5 d ((N:Nat):Int) n (i:Int)=some b
 | 0,_,_,h=>by omega
 | n+1,i,hi,hn=>by
  rw [Z70_l5];by_cases hlt:i<N
  ·have one:addC (i:Int) 1=some (((i+1:Nat)):Int):=by rw [addC_ok (by omega)]; rfl
   have h1:idxC d.FDefs.l (i:Int)=some (d.FDefs.l[i]'(by omega)):=by
    unfold idxC; rw [if_pos (by omega),Int.toNat_natCast,List.getElem?_eq_getElem (show i<d.FDefs.l.length by omega)]
   have h2:idxC d.FDefs.l ((N:Nat):Int)=some (d.FDefs.l[N]):=by
    unfold idxC; rw [if_pos (by omega),Int.toNat_natCast,List.getElem?_eq_getElem hN]
   rw [show decide ((i:Int)<((N:Nat):Int))=true from decide_eq_true (by omega),cond_true,h1,h2,Option.bind_some,Option.bind_some,one];cases ((d.FDefs.l[i]'(by omega)).FName==(d.FDefs.l[N]).FName)
   ·exact first_loop d N hN hl n (i+1) (by omega) (by omega)
   ·exact⟨_,rfl⟩
  ·rw [show decide ((i:Int)<((N:Nat):Int))=false from decide_eq_false (by omega),cond_false];exact⟨_,rfl⟩
theorem first_ok {d:TDoc}(hl:d.FDefs.l.length<=1048576){i:Nat}(hi:i<d.FDefs.l.length):∃b,Z70_q d ((i:Nat):Int)=some b:=first_loop d i hi hl F0 0 (by omega) (by rw [F0_eq]; omega)
theorem possible_loop {d:TDoc}(hd:d.FDefs.l.length<=1048576) (n:Bs) (x:TDef×Bool):∀(l:List TDef) (i:Nat) (s:Sl Bs),d.FDefs.l.drop i=l->s.l.length+l.length<=4000000->Tl (Z67_q9 d n x l i s) (s.l.length+l.length)
 | [],i,s,_,_=>⟨s,rfl,by simp⟩
 | y::l,i,s,hl,hs=>by
  have hi:i<d.FDefs.l.length:=by
   have:=congrArg List.length hl;simp only [List.length_drop,List.length_cons] at this; omega
  have hd':d.FDefs.l.drop (i+1)=l:=by rw [<- List.drop_drop,hl]; rfl
  simp only [List.length_cons] at hs ⊢;rw [Z67_q9];cases x.2
  ·exact⟨s,rfl,by omega⟩
  ·rw [cond_true];simp only [Ab.on];have same:Tl (Z67_q9 d n x l (i+1) s) (s.l.length+(l.length+1)):=(possible_loop hd n x l (i+1) s hd' (by omega)).mono (by omega);have more:Tl (Option.bind ((appC 16 s (⟨false,[y.FName]⟩:Sl Bs)).bind fun x31=>some x31) fun v=>Z67_q9 d n x l (i+1) v) (s.l.length+(l.length+1)):=by
    rw [appC_ok (by decide) (by simp; omega),Option.bind_some,Option.bind_some];exact(possible_loop hd n x l (i+1) _ hd' (by simp; omega)).mono (by simp; omega)
   obtain⟨b,hb⟩:=first_ok hd hi;cases hk:decide (y.FKind=1)
   ·simp only [guardO,Bool.not_false,Bool.not_true,Bool.true_or,cond_true,Option.bind_some];exact same
   ·simp only [guardO,Bool.not_true,Bool.not_false,if_true,hb,Option.bind_some,Bool.false_or];cases b
    ·exact same
    ·simp only [Bool.not_true,cond_false];generalize ((((decide (x.1.FKind=(1:Int)))&&((y.FName==n)))||((decide (x.1.FKind=(2:Int)))&&_))||((decide (x.1.FKind=(3:Int)))&&_))=w;cases w
     ·exact same
     ·exact more
theorem possible_ok {d:TDoc}(hd:d.FDefs.l.length<=1048576) (n:Bs):Tl (Z67_q d n) d.FDefs.l.length:=by
 unfold Z67_q;simp only [Ab.on];obtain⟨r,h1,h2⟩:=possible_loop hd n (Z45_q d n) d.FDefs.l 0 Sl.nil rfl (by simp [Sl.nil]; omega);rw [h1];exact⟨r,rfl,by simpa [Sl.nil] using h2⟩
theorem is_ok {d:TDoc}(hd:d.FDefs.l.length<=1048576) (n m:Bs):∃b,Z65_q d n m=some b:=by
 unfold Z65_q;obtain⟨r,h1,-⟩:=possible_ok hd m;rw [h1]; exact⟨_,rfl⟩
theorem overlap_ok {d:TDoc}(hd:d.FDefs.l.length<=1048576) (n m:Bs):∃b,Z66_q d n m=some b:=by
 unfold Z66_q;obtain⟨r,h1,-⟩:=possible_ok hd n;rw [h1,Option.bind_some];have:∀l:List Bs,∃o,Z66_q7 d m l=some o:=by
  intro l;induction l with
  | nil=>exact⟨_,rfl⟩
  | cons a t ih =>
   rw [Z66_q7];simp only [Ab.on];obtain⟨b,hb⟩:=is_ok hd a m;rw [hb,Option.bind_some];cases b
   ·exact ih
   ·exact⟨_,rfl⟩
 obtain⟨o,ho⟩:=this r.l;rw [ho];cases o<;>exact⟨_,rfl⟩
theorem apart_ok {d:TDoc}(hd:d.FDefs.l.length<=1048576) (n m a:Bs):Tl (Z79_q d n m a) 1:=by
 unfold Z79_q;obtain⟨b,hb⟩:=overlap_ok hd n m;cases (n==([]:Bs))||(m==([]:Bs))
 ·simp only [guardO,Bool.not_false,if_true,hb,Option.bind_some,Bool.false_or];cases b
  ·exact⟨_,rfl,by simp⟩
  ·exact⟨_,rfl,by simp [Sl.nil]⟩
 ·exact⟨Sl.nil,rfl,by simp [Sl.nil]⟩
end Go.Proofs

namespace Go.Proofs
open Go Go.Ab
theorem key_len (x:TSel):(Z84_q x).length+(x.FSels.l.map TSel.sz).sum+3<=x.sz:=by
 have h:=x.sz_def;have h1:Bs.sz x.FAlias=x.FAlias.length+1:=rfl;have h2:Bs.sz x.FName=x.FName.length+1:=rfl;have h3:Sl.sz TSel.sz x.FSels=1+(x.FSels.l.map TSel.sz).sum:=rfl;unfold Z84_q;cases (!(x.FAlias==([]:Bs)))
 ·rw [cond_false]; omega
 ·rw [cond_true]; omega
theorem sub_sum (x:TSel):(x.FSels.l.map TSel.sz).sum+4<=x.sz:=by
 have h:=x.sz_def;have h1:=Bs.sz_pos x.FAlias;have h2:=Bs.sz_pos x.FName;have h3:Sl.sz TSel.sz x.FSels=1+(x.FSels.l.map TSel.sz).sum:=rfl;omega
theorem sels_tl {d:TDoc}(hd:d.FDefs.l.length<=1048576) (q:TQuery):∀(n:Nat) (l:Sl TSel) (a b:Bs),(l.l.map TSel.sz).sum<n->(l.l.map TSel.sz).sum<=1048576->b.length+2*(l.l.map TSel.sz).sum<=100000000->Tl (Z86_qn n d q l a b) (2*(l.l.map TSel.sz).sum)
 | 0,_,_,_,h,_,_=>by omega
 | n+1,l,a,b,hn,hl,hb=>by
  have loop:∀(t:List TSel) (s:Sl TFault),(t.map TSel.sz).sum<=n->(t.map TSel.sz).sum<=1048576->b.length+2*(t.map TSel.sz).sum<=100000000->s.l.length+2*(t.map TSel.sz).sum<=100000000->Tl (Z86_q7 d q a b (Z86_qn n) t s) (s.l.length+2*(t.map TSel.sz).sum):=by
   intro t;induction t with
   | nil=>intro s _ _ _ _; exact⟨s,rfl,by simp⟩
   | cons x r ih =>
    intro s ht hl2 hb2 hs;simp only [List.map_cons,List.sum_cons] at ht hl2 hb2 hs ⊢;have hx:=sub_sum x;have hk:=key_len x;have rest:∀o:Option (Sl TFault),Tl o (s.l.length+2*x.sz)->Tl (o.bind fun v=>Z86_q7 d q a b (Z86_qn n) r v) (s.l.length+2*(x.sz+(r.map TSel.sz).sum)):=by
     intro o ho;refine ho.bind fun v hv=>?_;exact(ih v (by omega) (by omega) (by omega) (by omega)).mono (by omega)
    have sub:∀(a' b':Bs),b'.length<=b.length+1+(Z84_q x).length->Tl (Z86_qn n d q x.FSels a' b') (2*(x.FSels.l.map TSel.sz).sum):=fun a' b' h'=>sels_tl hd q n x.FSels a' b' (by omega) (by omega) (by omega);rw [Z86_q7];simp only [Ab.on];refine rest _ ?_;cases decide (x.FKind=2)
    ·rw [cond_false];cases decide (x.FKind=3)
     ·rw [cond_false,catC_ok (by simp; omega),Option.bind_some,catC_ok (by simp; omega),Option.bind_some];exact Tl.appT (Nat.le_refl _) (sub _ _ (by simp; omega)) (by omega) fun w hw=>⟨w,rfl,by omega⟩
     ·rw [cond_true];have fin:∀(v:Sl TFault) (c:Bs),v.l.length<=s.l.length+2->Tl ((Z86_qn n d q x.FSels c b).bind fun x35=>(appC 24 v x35).bind fun x36=>some x36) (s.l.length+2*x.sz):=by
       intro v c hv;exact Tl.appT hv (sub _ _ (by omega)) (by omega) fun w hw=>⟨w,rfl,by omega⟩
      cases (!(x.FOn==([]:Bs)))
      ·exact fin s a (by omega)
      ·rw [cond_true];have mid:∀(v:Sl TFault) (c:Bs),v.l.length<=s.l.length+1->Tl (Option.bind ((Z79_q d a c b).bind fun x43=>(appC 24 v x43).bind fun x44=>some (x44,c)) fun z32=>(Z86_qn n d q x.FSels z32.2 b).bind fun x35=>(appC 24 z32.1 x35).bind fun x36=>some x36) (s.l.length+2*x.sz):=by
        intro v c hv;obtain⟨w,h1,h2⟩:=apart_ok hd a c b;obtain⟨u,h3,h4⟩:=app24 (s:=v) (r:=w) (by omega);rw [h1,Option.bind_some,h3,Option.bind_some,Option.bind_some];exact fin u c (by omega)
       cases (Z85_q d x.FOn==([]:Bs))
       ·exact mid s _ (by omega)
       ·obtain⟨u,h3,h4⟩:=app24 (s:=s) (r:=⟨false,[TFault.mk (24:Int) b]⟩) (by simp; omega);rw [cond_true,h3,Option.bind_some,Option.bind_some];exact mid u _ (by rw [h4]; simp)
    ·rw [cond_true];cases (Z77_q q x.FName).2
     ·exact(Tl.add1 (Nat.le_refl _) (by omega)).mono (by omega)
     ·exact Tl.appT (Nat.le_refl _) (apart_ok hd _ _ _) (by omega) fun w hw=>⟨w,rfl,by omega⟩
  obtain⟨r,h1,h2⟩:=loop l.l Sl.nil (by omega) hl hb (by simp [Sl.nil]; omega);rw [Z86_qn,h1];exact⟨r,rfl,by simpa [Sl.nil] using h2⟩
end Go.Proofs

namespace Go.Proofs
open Go Go.Ab
def fndG (l:List TFrag) (s:Bs):TFrag×Bool:=match l.find? (fun t=>t.FName==s) with|some t=>(t,true)|none=>(TFrag.zero,false)
theorem ffindAux (l:List TFrag) (s:Bs):Z9_q7 s l=match l.find? (fun t=>t.FName==s) with|some t=>Sum.inr (t,true)|none=>Sum.inl ():=by
 induction l with
 | nil=>rfl
 | cons a r ih =>
  rw [Z9_q7,List.find?_cons];simp only [Ab.on,ih];cases a.FName==s<;>rfl
theorem ffind_eq (q:TQuery) (s:Bs):Z9_q q s=fndG q.FFrags.l s:=by
 unfold Z9_q fndG;simp only [Ab.on];rw [ffindAux];cases q.FFrags.l.find? (fun t=>t.FName==s)<;>rfl
theorem rfindAux (l:List TFrag) (s:Bs):Z77_q6 s l=Z9_q7 s l:=by
 induction l with
 | nil=>rfl
 | cons a r ih=>rw [Z77_q6,Z9_q7,ih]; rfl
theorem rfind_eq (q:TQuery) (s:Bs):Z77_q q s=fndG q.FFrags.l s:=by
 rw [<- ffind_eq]; unfold Z77_q Z9_q; rw [rfindAux]; all_goals rfl
theorem fndG_name {l:List TFrag}{s:Bs}(h:(fndG l s).2=true):(fndG l s).1.FName=s/\(fndG l s).1∈l:=by
 unfold fndG at *;cases e:l.find? (fun t=>t.FName==s) with
 | none=>rw [e] at h; cases h
 | some t=>exact⟨by simpa using List.find?_some e,List.mem_of_find?_eq_some e⟩
theorem fndG_none {l:List TFrag}{s:Bs}(h:(fndG l s).2=false):(fndG l s).1=TFrag.zero:=by
 unfold fndG at *;cases e:l.find? (fun t=>t.FName==s) with
 | none=>rfl
 | some t=>rw [e] at h; cases h
theorem indexAux (s:Bs) (l:List Bs):∀n:Nat,(l.contains s=false->Z108_q6 s l n=Sum.inl ())/\(l.contains s=true->∃m:Nat,Z108_q6 s l n=Sum.inr (m:Int)):=by
 induction l with
 | nil=>intro n; exact⟨fun _=>rfl,fun h=>by simp at h⟩
 | cons a r ih =>
  intro n;rw [Z108_q6];simp only [Ab.on,List.contains_cons];cases s==a
  ·simp only [Bool.false_or,cond_false]; exact ih (n+1)
  ·simp only [Bool.true_or,cond_true]; exact⟨fun h=>by simp at h,fun _=>⟨n,rfl⟩⟩
theorem contains_eq (a:Sl Bs) (s:Bs):Z103_q a s=a.l.contains s:=by
 unfold Z103_q Z108_q;simp only [Ab.on];have h:=indexAux s a.l 0;cases hc:a.l.contains s
 ·rw [h.1 hc]; rfl
 ·obtain⟨m,e⟩:=h.2 hc;rw [e]; exact decide_eq_true (by simp)
def unseen (fr:Sl TFrag) (seen:List Bs):Nat:=(fr.l.filter fun f=>!seen.contains f.FName).length
theorem filter_le {α:Type}{p q:α->Bool}{l:List α}(h:∀x∈l,p x=true->q x=true):(l.filter p).length<=(l.filter q).length:=by
 induction l with
 | nil=>simp
 | cons a r ih =>
  have:=ih fun x hx=>h x (List.mem_cons_of_mem _ hx);have h1:=h a List.mem_cons_self;simp only [List.filter_cons];cases hp:p a<;>cases hq:q a<;>simp_all<;>omega
theorem filter_lt {α:Type}{p q:α->Bool}{l:List α}{y:α}(h:∀x∈l,p x=true->q x=true) (hy:y∈l) (h1:p y=false) (h2:q y=true):(l.filter p).length<(l.filter q).length:=by
 induction l with
 | nil=>cases hy
 | cons a r ih =>
  have h3:=filter_le (l:=r) (p:=p) (q:=q) fun x hx=>h x (List.mem_cons_of_mem _ hx);simp only [List.filter_cons];rcases List.mem_cons.1 hy with rfl|hy
  ·simp [h1,h2]; omega
  ·have:=ih (fun x hx=>h x (List.mem_cons_of_mem _ hx)) hy;have h4:=h a List.mem_cons_self;cases hp:p a<;>cases hq:q a<;>simp_all<;>omega
theorem unseen_le {fr:Sl TFrag}{a b:List Bs}(h:∀s∈a,s∈b):unseen fr b<=unseen fr a:=filter_le fun x _ hp=>by
 simp at hp ⊢; exact fun h2=>hp (h _ h2)
theorem unseen_lt {fr:Sl TFrag}{a b:List Bs}(h:∀s∈a,s∈b){f:TFrag}(hf:f∈fr.l) (h1:f.FName∉a) (h2:f.FName∈b):unseen fr b<unseen fr a :=
 filter_lt (fun x _ hp=>by simp at hp ⊢; exact fun h2=>hp (h _ h2)) hf (by simpa using h2) (by simpa using h1)
theorem unseen_all (fr:Sl TFrag) (seen:List Bs):unseen fr seen<=fr.l.length:=List.length_filter_le _ _
end Go.Proofs

namespace Go.Proofs
open Go Go.Ab
theorem sel_parts (s:TSel):(s.FArgs.l.map TArg.sz).sum+(s.FSels.l.map TSel.sz).sum+4<=s.sz:=by
 have h:=s.sz_def; have h1:=Bs.sz_pos s.FAlias; have h2:=Bs.sz_pos s.FName;have h3:(s.FArgs.l.map TArg.sz).sum+1=Sl.sz TArg.sz s.FArgs:=by unfold Sl.sz; omega
 have h4:(s.FSels.l.map TSel.sz).sum+1=Sl.sz TSel.sz s.FSels:=by unfold Sl.sz; omega
 omega
theorem hasAux (s:Bs) (l:List Bs):Z83_q5 s l=bif l.contains s then Sum.inr true else Sum.inl ():=by
 induction l with
 | nil=>rfl
 | cons a r ih =>
  rw [Z83_q5];simp only [Ab.on,ih,List.contains_cons];rw [show (s==a)=(a==s) from Bool.beq_comm];cases a==s<;>rfl
theorem has_eq (a:Sl Bs) (s:Bs):Z83_q a s=a.l.contains s:=by
 unfold Z83_q; simp only [Ab.on]; rw [hasAux]; cases a.l.contains s<;>rfl
theorem walk_loop (q:TQuery) (k:TQuery->Sl TSel->Sl Bs->Option (Sl Bs×Bool)):∀(l:List TSel) (s:Sl Bs) (b:Bool),Z12_q9 q k l s b=Z88_q8 q k l s b
 | [],_,_=>rfl
 | h::r,s,b=>by
  have ih:=walk_loop q k r;rw [Z12_q9,Z88_q8];simp only [Ab.on,ffind_eq,rfind_eq,contains_eq,has_eq,ih];cases decide (h.FKind=2)
  ·rfl
  ·simp only [cond_true];cases hf:(fndG q.FFrags.l h.FName).2
   ·simp
   ·rw [(fndG_name hf).1];simp
theorem walk_eq (q:TQuery):∀n,Z12_qn n q=Z88_qn n q
 | 0=>rfl
 | n+1=>by
  funext l s
  rw [Z12_qn,Z88_qn];have hk:∀l s,Z12_qn n q l s=Z88_qn n q l s:=fun l s=>by rw [walk_eq q n]
  have key:∀(l:List TSel) (s:Sl Bs) (b:Bool),Z12_q9 q (Z12_qn n) l s b=Z12_q9 q (Z88_qn n) l s b:=by
   intro l;induction l with
   | nil=>intro s b; rfl
   | cons h r ih =>
    intro s b;rw [Z12_q9,Z12_q9];simp only [Ab.on,hk,ih]
  rw [key,walk_loop]
def Vis (q:TQuery) (o:Option (Sl Bs×Bool)) (s:Sl Bs):Prop:=∃s' b,o=some (s',b)/\(∀x∈s.l,x∈s'.l)/\unseen q.FFrags s'.l+s'.l.length<=unseen q.FFrags s.l+s.l.length
theorem meas_le {a b T x y n:Nat}(h:a<=b) (hx:x<=y) (h2:b*(T+1)+y<=n):a*(T+1)+x<=n:=by
 have:a*(T+1)<=b*(T+1):=Nat.mul_le_mul_right _ h;omega
theorem meas_lt {a b T x y n:Nat}(h:a<b) (hx:x<=T) (h2:b*(T+1)+y<=n):a*(T+1)+x<n:=by
 have:(a+1)*(T+1)<=b*(T+1):=Nat.mul_le_mul_right _ h;rw [Nat.succ_mul] at this;omega
theorem visit_loop {q:TQuery}{T n:Nat}(hT:∀f∈q.FFrags.l,(f.FSels.l.map TSel.sz).sum<=T)
  (ih:∀(l:Sl TSel) (s:Sl Bs),unseen q.FFrags s.l*(T+1)+(l.l.map TSel.sz).sum<n->(l.l.map TSel.sz).sum<=T->unseen q.FFrags s.l+s.l.length<=1048576->Vis q (Z88_qn n q l s) s) :
  ∀(l:List TSel) (s:Sl Bs) (b:Bool),unseen q.FFrags s.l*(T+1)+(l.map TSel.sz).sum<=n->(l.map TSel.sz).sum<=T->unseen q.FFrags s.l+s.l.length<=1048576->Vis q (Z88_q8 q (Z88_qn n) l s b) s
 | [],s,b,_,_,_=>⟨s,b,rfl,fun _ h=>h,Nat.le_refl _⟩
 | h::r,s,b,hn,hl,hb=>by
  simp only [List.map_cons,List.sum_cons] at hn hl;have hp:(h.FSels.l.map TSel.sz).sum+4<=h.sz:=by have:=sel_parts h; omega
  -- the rest,from what the selection has seen
  have rest:∀(o:Option (Sl Bs×Bool)),Vis q o s->Vis q (Option.bind o fun z16=>Z88_q8 q (Z88_qn n) r z16.1 z16.2) s:=fun o ho=>by
   obtain⟨s1,b1,e,hs,hu⟩:=ho;have hle:=unseen_le (fr:=q.FFrags) hs;obtain⟨s2,b2,e2,hs2,hu2⟩:=visit_loop hT ih r s1 b1 (meas_le hle (by omega) hn) (by omega) (by omega);exact⟨s2,b2,by rw [e,Option.bind_some]; exact e2,fun x hx=>hs2 x (hs x hx),by omega⟩
  rw [Z88_q8];simp only [Ab.on,rfind_eq,has_eq];refine rest _ ?_;cases decide (h.FKind=2)
  ·rw [cond_false];obtain⟨s1,b1,e,hs,hu⟩:=ih h.FSels s (by omega) (by omega) hb;exact⟨s1,b&&b1,by rw [e]; rfl,hs,hu⟩
  ·rw [cond_true];cases hf:(fndG q.FFrags.l h.FName).2
   ·exact⟨s,false,rfl,fun _ h=>h,Nat.le_refl _⟩
   ·obtain⟨hn1,hm⟩:=fndG_name hf;cases hc:s.l.contains (fndG q.FFrags.l h.FName).1.FName
    ·simp only [Bool.not_true,Bool.not_false,cond_true,cond_false,Bool.or_false];have hsub:∀x∈s.l,x∈s.l++[(fndG q.FFrags.l h.FName).1.FName]:=fun x hx=>by simp [hx]
     have hlt:=unseen_lt (fr:=q.FFrags) hsub hm (by simpa using hc) (by simp);rw [appC_ok (by decide) (by simp only [List.length_singleton]; omega),Option.bind_some];obtain⟨s1,b1,e,hs,hu⟩:=ih (fndG q.FFrags.l h.FName).1.FSels ⟨s.nl&&List.isEmpty [(fndG q.FFrags.l h.FName).1.FName],s.l++[(fndG q.FFrags.l h.FName).1.FName]⟩ (meas_lt hlt (hT _ hm) hn) (hT _ hm) (by simp only [List.length_append,List.length_singleton]; omega)
     refine⟨s1,b&&b1,by rw [e]; rfl,fun x hx=>hs x (hsub x hx), ?_⟩;simp only [List.length_append,List.length_singleton] at hu;omega
    ·simp only [Bool.not_true,Bool.not_false,cond_true,cond_false,Bool.false_or];exact⟨s,b,rfl,fun _ h=>h,Nat.le_refl _⟩
theorem visit_tot {q:TQuery}{T:Nat}(hT:∀f∈q.FFrags.l,(f.FSels.l.map TSel.sz).sum<=T):∀(n:Nat) (l:Sl TSel) (s:Sl Bs),unseen q.FFrags s.l*(T+1)+(l.l.map TSel.sz).sum<n->(l.l.map TSel.sz).sum<=T->unseen q.FFrags s.l+s.l.length<=1048576->Vis q (Z88_qn n q l s) s
 | 0,_,_,h,_,_=>by omega
 | n+1,l,s,hn,hl,hb=>by
  obtain⟨s1,b1,e,hs,hu⟩:=visit_loop hT (visit_tot hT n) l.l s true (by omega) hl hb;exact⟨s1,b1,by rw [Z88_qn,e]; rfl,hs,hu⟩
def QOkV (q:TQuery):Prop:=q.FFrags.l.length<=1048576/\∀f∈q.FFrags.l,(f.FSels.l.map TSel.sz).sum<=1048576
theorem visit_top {q:TQuery}(hq:QOkV q) (l:Sl TSel) (hl:(l.l.map TSel.sz).sum<=1048576):∃s' b,Z88_q q l Sl.nil=some (s',b)/\s'.l.length<=1048576:=by
 have hu:=unseen_all q.FFrags [];have h1:=hq.1;have hm:unseen q.FFrags []*(1048576+1)<=1048576*(1048576+1):=Nat.mul_le_mul_right _ (by omega);obtain⟨s',b,e,_,h2⟩:=visit_tot hq.2 F0 l Sl.nil (by rw [F0_eq]; simp only [Sl.nil]; omega) hl (by simp only [Sl.nil,List.length_nil]; omega);refine⟨s',b,e, ?_⟩;simp only [Sl.nil,List.length_nil] at h2;omega
theorem fndG_sum {q:TQuery}(hq:QOkV q) (s:Bs):((fndG q.FFrags.l s).1.FSels.l.map TSel.sz).sum<=1048576:=by
 cases h:(fndG q.FFrags.l s).2
 ·rw [fndG_none h]; decide
 ·exact hq.2 _ (fndG_name h).2
theorem circ_tot {q:TQuery}(hq:QOkV q) (f:TFrag) (hf:(f.FSels.l.map TSel.sz).sum<=1048576):∃b,Z80_q q f=some b/\Z11_q q f=some b:=by
 obtain⟨s,b,e,_⟩:=visit_top hq f.FSels hf;refine⟨s.l.contains f.FName, ?_, ?_⟩
 ·unfold Z80_q; rw [e]; simp only [Option.bind_some,Ab.on,has_eq]
 ·unfold Z11_q Z12_q;rw [walk_eq];unfold Z88_q at e;rw [e]; simp only [Option.bind_some,Ab.on,contains_eq]
end Go.Proofs

namespace Go.Proofs
open Go Go.Ab
theorem QOkV.of {q:TQuery}(h:q.sz<=1048576):QOkV q/\(∀o∈q.FOps.l,o.sz<=1048576)/\(∀f∈q.FFrags.l,f.sz<=1048576)/\(q.FOps.l.map TOp.sz).sum+(q.FFrags.l.map TFrag.sz).sum<=1048576:=by
 have h1:=q.sz_def;have h2:Sl.sz TOp.sz q.FOps=1+(q.FOps.l.map TOp.sz).sum:=rfl;have h3:Sl.sz TFrag.sz q.FFrags=1+(q.FFrags.l.map TFrag.sz).sum:=rfl;have h4:=Sl.len_le (f:=TFrag.sz) q.FFrags (fun x=>TFrag.pos x);refine⟨⟨by omega,fun f hf=>?_⟩,fun o ho=>?_,fun f hf=>?_,by omega⟩
 ·have h5:=Sl.mem_le (f:=TFrag.sz) hf;have h6:=f.sz_def;have h7:Sl.sz TSel.sz f.FSels=1+(f.FSels.l.map TSel.sz).sum:=rfl;omega
 ·have h5:=Sl.mem_le (f:=TOp.sz) ho;omega
 ·have h5:=Sl.mem_le (f:=TFrag.sz) hf;omega
theorem op_sels {o:TOp}:(o.FSels.l.map TSel.sz).sum+o.FName.length<=o.sz:=by
 have h6:=o.sz_def;have h7:Sl.sz TSel.sz o.FSels=1+(o.FSels.l.map TSel.sz).sum:=rfl;have h8:Bs.sz o.FName=o.FName.length+1:=rfl;omega
theorem frag_sels {o:TFrag}:(o.FSels.l.map TSel.sz).sum+o.FName.length+2<=o.sz:=by
 have h6:=o.sz_def;have h7:Sl.sz TSel.sz o.FSels=1+(o.FSels.l.map TSel.sz).sum:=rfl;have h8:Bs.sz o.FName=o.FName.length+1:=rfl;omega
theorem used_ok {q:TQuery}(hq:q.sz<=1048576) (n:Bs):∃b,Z87_q q n=some b:=by
 obtain⟨h1,h2,h3,h4⟩:=QOkV.of hq;have:∀l:List TOp,(∀o∈l,o.sz<=1048576)->∃o,Z87_q5 q n l=some o:=by
  intro l;induction l with
  | nil=>intro _; exact⟨_,rfl⟩
  | cons a r ih =>
   intro h;have ha:=h a (.head _);have hs:=@op_sels a;obtain⟨s,b,e,-⟩:=visit_top h1 a.FSels (by omega);rw [Z87_q5];simp only [Ab.on];rw [e,Option.bind_some];cases Z83_q s n
   ·exact ih fun o ho=>h o (.tail _ ho)
   ·exact⟨_,rfl⟩
 obtain⟨o,ho⟩:=this q.FOps.l h2;unfold Z87_q;rw [ho];cases o<;>exact⟨_,rfl⟩
theorem sels_top {d:TDoc}(hd:d.FDefs.l.length<=1048576) (q:TQuery) (l:Sl TSel) (a b:Bs) (h:(l.l.map TSel.sz).sum<=1048576) (hb:b.length<=1048576):Tl (Z86_q d q l a b) (2*(l.l.map TSel.sz).sum) :=
 sels_tl hd q F0 l a b (by rw [F0_eq]; omega) h (by omega)
theorem check13_ops {d:TDoc}(hd:d.FDefs.l.length<=1048576) (q:TQuery):∀(l:List TOp) (s:Sl TFault),(l.map TOp.sz).sum<=1048576->s.l.length+2*(l.map TOp.sz).sum<=100000000->Tl (Z76_q42 d q l s) (s.l.length+2*(l.map TOp.sz).sum)
 | [],s,_,_=>⟨s,rfl,by simp⟩
 | o::l,s,h,hs=>by
  simp only [List.map_cons,List.sum_cons] at h hs ⊢;have h1:=@op_sels o;rw [Z76_q42];simp only [Ab.on];refine Tl.appT (Nat.le_refl _) (sels_top hd q o.FSels _ _ (by omega) (by omega)) (by omega) fun w hw=>?_;exact(check13_ops hd q l w (by omega) (by omega)).mono (by omega)
theorem check13_frags {d:TDoc}(hd:d.FDefs.l.length<=1048576){q:TQuery}(hq:q.sz<=1048576):∀(l:List TFrag) (s:Sl TFault),(l.map TFrag.sz).sum<=1048576->s.l.length+3*(l.map TFrag.sz).sum<=100000000->Tl (Z76_q9 d q l s) (s.l.length+3*(l.map TFrag.sz).sum)
 | [],s,_,_=>⟨s,rfl,by simp⟩
 | f::l,s,h,hs=>by
  simp only [List.map_cons,List.sum_cons] at h hs ⊢;have h1:=@frag_sels f;obtain⟨hQ,-⟩:=QOkV.of hq;have one:∀(z:Bool) (v:Sl TFault) (y:TFault) (m:Nat),v.l.length<=m->m<=1000000000->Tl (bif z then((appC 24 v (⟨false,[y]⟩:Sl TFault)).bind fun x=>some x) else some v) (m+1):=by
   intro z v y m hv hm;cases z
   ·exact⟨v,rfl,by omega⟩
   ·exact Tl.add1 hv hm
  rw [Z76_q9];simp only [Ab.on];refine(one _ s _ s.l.length (Nat.le_refl _) (by omega)).bind fun v1 hv1=>?_;obtain⟨c,hc,-⟩:=circ_tot hQ f (by omega);rw [hc,Option.bind_some];refine(one c v1 _ _ hv1 (by omega)).bind fun v2 hv2=>?_;obtain⟨u,hu⟩:=used_ok hq f.FName;rw [hu,Option.bind_some];refine(one (!u) v2 _ _ hv2 (by omega)).bind fun v3 hv3=>?_;refine Tl.appT hv3 (sels_top hd q f.FSels _ _ (by omega) (by omega)) (by omega) fun w hw=>?_
  exact(check13_frags hd hq l w (by omega) (by omega)).mono (by omega)
theorem check13_tl {d:TDoc}(hd:d.FDefs.l.length<=1048576){q:TQuery}(hq:q.sz<=1048576):Tl (Z76_q d q) 10000000:=by
 obtain⟨-,-,-,h4⟩:=QOkV.of hq;unfold Z76_q;refine Tl.bind (a:=2*(q.FOps.l.map TOp.sz).sum) ?_ fun r hr=>?_
 ·obtain⟨r,h1,h2⟩:=check13_ops hd q q.FOps.l Sl.nil (by omega) (by simp [Sl.nil]; omega);exact⟨r,h1,by simpa [Sl.nil] using h2⟩
 ·simp only [Ab.on];obtain⟨w,h1,h2⟩:=check13_frags hd hq q.FFrags.l r (by omega) (by omega);rw [h1];exact⟨w,rfl,by omega⟩
end Go.Proofs

namespace Go.Proofs
open Go Go.Ab
theorem large_in:∀(l:List TField) (s:Int),0<=s->s+((l.map TField.sz).sum:Nat)<=1073741824->∃r,Z48_q36 l s=some r/\s<=r/\r<=s+((l.map TField.sz).sum:Nat)/\∀f∈l,s+(f.FArgs.l.length:Nat)<=r
 | [],s,_,_=>⟨s,rfl,by omega,by simp,fun _ h=>by cases h⟩
 | f::l,s,h0,hb=>by
  simp only [List.map_cons,List.sum_cons] at hb ⊢;have h1:=f.sz_def;have h2:=Sl.len_le (f:=TInput.sz) f.FArgs (fun x=>TInput.pos x);have h3:=Sl.len_le (f:=TDir.sz) f.FDirs (fun x=>TDir.pos x);rw [Z48_q36];simp only [Ab.on];rw [addC_ok (by omega),Option.bind_some,addC_ok (by omega),Option.bind_some];obtain⟨r,e,a1,a2,a3⟩:=large_in l (s+(((f.FArgs.l.length:Nat):Int)+((f.FDirs.l.length:Nat):Int))) (by omega) (by omega)
  refine⟨r,e,by omega,by omega,fun g hg=>?_⟩;rcases List.mem_cons.1 hg with rfl|hg
  ·omega
  ·have:=a3 g hg; omega
def Sm (x:TDef):Prop:=x.FFields.l.length<=1000/\x.FMembers.l.length<=1000/\x.FImplements.l.length<=1000/\x.FInputs.l.length<=1000/\∀f∈x.FFields.l,f.FArgs.l.length<=1000
theorem large_out:∀(l:List TDef) (s:Int),0<=s->s+2*((l.map TDef.sz).sum:Nat)<=1073741824->∃r,Z48_q12 l s=some r/\s<=r/\(r<=1000->∀x∈l,Sm x)
 | [],s,_,_=>⟨s,rfl,by omega,fun _ _ h=>by cases h⟩
 | x::l,s,h0,hb=>by
  simp only [List.map_cons,List.sum_cons] at hb;have h1:=x.sz_def;have h2:=Sl.len_le (f:=TField.sz) x.FFields (fun x=>TField.pos x);have h3:=Sl.len_le (f:=TMember.sz) x.FMembers (fun x=>TMember.pos x);have h4:=Sl.len_le (f:=TInput.sz) x.FInputs (fun x=>TInput.pos x);have h5:=Sl.len_le (f:=TDir.sz) x.FDirs (fun x=>TDir.pos x);have h6:=Sl.len_le (f:=Bs.sz) x.FImplements (fun x=>Bs.sz_pos x);have h7:Sl.sz TField.sz x.FFields=1+(x.FFields.l.map TField.sz).sum:=rfl
  rw [Z48_q12];simp only [Ab.on];rw [addC_ok (by omega),Option.bind_some,addC_ok (by omega),Option.bind_some,addC_ok (by omega),Option.bind_some,addC_ok (by omega),Option.bind_some,addC_ok (by omega),Option.bind_some,addC_ok (by omega),Option.bind_some];obtain⟨z,e,a1,a2,a3⟩:=large_in x.FFields.l _ (show 0<=s+((((((1:Int)+((x.FFields.l.length:Nat):Int))+((x.FMembers.l.length:Nat):Int))+((x.FInputs.l.length:Nat):Int))+((x.FDirs.l.length:Nat):Int))+((x.FImplements.l.length:Nat):Int)) by omega) (by omega)
  rw [e,Option.bind_some];obtain⟨r,e2,b1,b2⟩:=large_out l z (by omega) (by omega);refine⟨r,e2,by omega,fun hr y hy=>?_⟩;rcases List.mem_cons.1 hy with rfl|hy
  ·exact⟨by omega,by omega,by omega,by omega,fun f hf=>by have:=a3 f hf; omega⟩
  ·exact b2 hr y hy
theorem large10 {d:TDoc}(hd:d.sz<=1048576):∃b,Z48_q d=some b/\(b=false->d.FDefs.l.length<=70/\∀x∈d.FDefs.l,Sm x):=by
 have h1:=d.sz_def;have h2:Sl.sz TDef.sz d.FDefs=1+(d.FDefs.l.map TDef.sz).sum:=rfl;unfold Z48_q;by_cases h:d.FDefs.l.length<=70
 ·rw [show decide ((70:Int)<((d.FDefs.l.length:Nat):Int))=false from decide_eq_false (by omega),cond_false];obtain⟨r,e,b1,b2⟩:=large_out d.FDefs.l 0 (by omega) (by omega);rw [e,Option.bind_some];simp only [Ab.on];exact⟨_,rfl,fun hb=>⟨h,b2 (by have:=of_decide_eq_false hb; omega)⟩⟩
 ·rw [show decide ((70:Int)<((d.FDefs.l.length:Nat):Int))=true from decide_eq_true (by omega)];exact⟨true,rfl,fun h=>by cases h⟩
theorem cut11 {t:TRef}(h:t.FWraps.l.length<=1048576) (h1:1<=t.FWraps.l.length):Z32_q t=some ⟨t.FName,⟨false,t.FWraps.l.drop 1⟩⟩:=by
 unfold Z32_q;rw [partC_tail h1,Option.bind_some,appC_ok (by decide) (by simp; omega)];simp
theorem nullable11 {t:TRef}(h:t.FWraps.l.length<=1048576):∃u,Z29_q t=some u/\u.FWraps.l.length<=t.FWraps.l.length/\(Z28_q t=true->u.FWraps.l.length<t.FWraps.l.length):=by
 unfold Z29_q;simp only [Ab.on];cases hn:Z28_q t
 ·rw [cond_false,appC_ok (by decide) (by simp; omega)];exact⟨_,rfl,by simp,fun h=>by cases h⟩
 ·have h1:1<=t.FWraps.l.length:=by
   unfold Z28_q at hn;cases hw:t.FWraps.l with
   | nil=>rw [hw] at hn; cases hn
   | cons a r=>simp
  rw [cond_true,cut11 h h1];exact⟨_,rfl,by simp,fun _=>by simp; omega⟩
theorem inner11 {t:TRef}(h:t.FWraps.l.length<=1048576):∃u b,Z26_q t=some (u,b)/\(b=true->u.FWraps.l.length<t.FWraps.l.length):=by
 obtain⟨u,h1,h2,-⟩:=nullable11 h;unfold Z26_q Z27_q;rw [h1,Option.bind_some];simp only [Ab.on,Option.bind_some];cases hl:(decide ((0:Int)<((u.FWraps.l.length:Nat):Int))&&decide ((bif decide ((0:Int)<((u.FWraps.l.length:Nat):Int)) then(u.FWraps.l[0]?).getD 0 else 0)=2))
 ·exact⟨_,false,rfl,fun h=>by cases h⟩
 ·simp only [Bool.and_eq_true,decide_eq_true_eq] at hl;rw [Bool.not_true,cond_false,cut11 (by omega) (by omega),Option.bind_some];exact⟨_,true,rfl,fun _=>by simp; omega⟩
theorem sub_ok {d:TDoc}(hd:d.FDefs.l.length<=1048576):∀(n:Nat) (a b:TRef),a.FWraps.l.length<n->a.FWraps.l.length<=1048576->b.FWraps.l.length<=1048576->∃v,Z68_qn n d a b=some v
 | 0,_,_,h,_,_=>by omega
 | n+1,a,b,hn,ha,hb=>by
  rw [Z68_qn];simp only [Ab.on];obtain⟨u,u1,u2,u3⟩:=nullable11 ha;obtain⟨w,w1,w2,w3⟩:=nullable11 hb;cases hbn:Z28_q b
  ·rw [cond_false];cases han:Z28_q a
   ·rw [cond_false];obtain⟨p,x,p1,p2⟩:=inner11 ha;obtain⟨q,y,q1,q2⟩:=inner11 hb;rw [p1,q1,Option.bind_some,Option.bind_some];obtain⟨z,hz⟩:=is_ok hd a.FName b.FName;cases x
    ·cases y
     ·simp only [Bool.false_and,cond_false,Bool.not_false,Bool.true_and,Bool.and_self];cases (a.FName==b.FName)
      ·simp only [guardO,Bool.not_false,if_true,hz,Option.bind_some]; exact⟨_,rfl⟩
      ·exact⟨_,rfl⟩
     ·exact⟨_,rfl⟩
    ·cases y
     ·exact⟨_,rfl⟩
     ·have hq:=q2 rfl;have hp:=p2 rfl;obtain⟨v,hv⟩:=sub_ok hd n p q (by omega) (by omega) (by omega);simp only [Bool.and_self,cond_true,hv,Option.bind_some];exact⟨_,rfl⟩
   ·rw [cond_true,u1,Option.bind_some];obtain⟨v,hv⟩:=sub_ok hd n u b (by have:=u3 han; omega) (by omega) hb;rw [hv]; exact⟨_,rfl⟩
  ·rw [cond_true];cases han:Z28_q a
   ·exact⟨_,rfl⟩
   ·obtain⟨v,hv⟩:=sub_ok hd n u w (by have:=u3 han; omega) (by omega) (by omega);simp only [guardO,if_true,u1,w1,hv,Option.bind_some];exact⟨_,rfl⟩
theorem same11_ok (a b:TRef):∃v,Z31_q a b=some v:=by
 have loop:∀(c:Sl Int) (l:List Int) (i:Nat),l.length+i<=c.l.length->∃o,Z33_q11 c l i=some o:=by
  intro c l;induction l with
  | nil=>intro i _; exact⟨_,rfl⟩
  | cons x r ih =>
   intro i h;simp only [List.length_cons] at h;rw [Z33_q11];simp only [Ab.on];rw [List.getElem?_eq_getElem (show i<c.l.length by omega),Option.bind_some];cases (!decide (x=c.l[i]'(by omega)))
   ·exact ih (i+1) (by omega)
   ·exact⟨_,rfl⟩
 have h2:∃v,Z33_q a.FWraps b.FWraps=some v:=by
  unfold Z33_q;by_cases h:a.FWraps.l.length=b.FWraps.l.length
  ·rw [show (!decide (((a.FWraps.l.length:Nat):Int)=((b.FWraps.l.length:Nat):Int)))=false by rw [decide_eq_true (show ((a.FWraps.l.length:Nat):Int)=((b.FWraps.l.length:Nat):Int) by omega)]; rfl,cond_false];obtain⟨o,ho⟩:=loop b.FWraps a.FWraps.l 0 (by omega);rw [ho];cases o<;>exact⟨_,rfl⟩
  ·rw [show (!decide (((a.FWraps.l.length:Nat):Int)=((b.FWraps.l.length:Nat):Int)))=true by rw [decide_eq_false (show ¬((a.FWraps.l.length:Nat):Int)=((b.FWraps.l.length:Nat):Int) by omega)]; rfl];exact⟨_,rfl⟩
 obtain⟨v,hv⟩:=h2;unfold Z31_q;cases (a.FName==b.FName)
 ·exact⟨_,rfl⟩
 ·simp only [guardO,if_true,hv]; exact⟨_,rfl⟩
end Go.Proofs
