import Derived.Test.YtbcphmbgonamlaaGreatDoorV6
set_option maxRecDepth 100000
set_option maxHeartbeats 2000000
set_option linter.unusedVariables false
set_option linter.unusedSimpArgs false
namespace Go.Proofs
open Go Go.Ab
def Z74_q7 (a1:Int):List Z5->Int->Option (Int)
 | [],s5_8=>some s5_8
 | h7::r7,s5_8=>bif (decide (s5_8<=a1)) then((addC s5_8 (1:Int)).bind fun x15=>on (h7) fun x16=>(addC x15 ((x16.FType.FWraps.l.length:Nat):Int)).bind fun x17=>on (h7) fun x18=>(Z54_q x18.FDefault a1).bind fun x19=>(addC x17 x19).bind fun x20=>on (h7) fun x21=>(Z73_q x21.FDirs a1).bind fun x22=>(addC x20 x22).bind fun x23=>Z74_q7 a1 (r7) x23) else(some s5_8)
theorem Z74_l7_qe {a0:(Sl Z5)}{a1:Int}  (Kb7:(Int)->Option Int) (hend:∀(n7:Nat) (s5_8:Int) (s6_9:Nat),Z74_j3   s5_8=Kb7 s5_8):∀(n7:Nat) (s5_8:Int) (s6_9:Nat),(0<n7/\a0.l.length<s6_9+n7)->Z74_l7 a0 a1 n7 s5_8 s6_9=Option.bind (Z74_q7 a1 (a0.l.drop s6_9) s5_8) Kb7:=by
 intro n7;induction n7 with
 | zero=>intro s5_8 s6_9 hn; exact absurd hn.1 (by omega)
 | succ n7 ih7 =>
  intro s5_8 s6_9 hn;rw [Z74_l7];by_cases hlt:s6_9<a0.l.length
  ·obtain⟨h7,hh7⟩:=Qa hlt;rw [Q.drop_of hh7,Z74_q7];refine Q.condAT (Q.ltT hlt) ?_;refine Q.condO ?_ ?_
   ·refine Q.bindO rfl fun x15=>?_;refine Q.bindPO hh7 fun x16 hx_x16=>?_;refine Q.bindO rfl fun x17=>?_;refine Q.bindPO hh7 fun x18 hx_x18=>?_;refine Q.bindO (Z54_eq _ _) fun x19=>?_;refine Q.bindO rfl fun x20=>?_;refine Q.bindPO hh7 fun x21 hx_x21=>?_;refine Q.bindO (Z73_eq _ _) fun x22=>?_;refine Q.bindO rfl fun x23=>?_;all_goals exact ih7 _ _ ⟨by omega,by omega⟩
   all_goals exact hend n7 s5_8 s6_9
  rw [dL (by omega),Z74_q7];refine Q.condAF (Q.ltF hlt) ?_;exact hend n7 s5_8 s6_9
def Z74_q (a0:(Sl Z5)) (a1:Int):Option Int:=Option.bind (Z74_q7 a1 a0.l (0:Int)) fun s5_8=>on (s5_8) fun s5_4=>some s5_4
theorem Z74_eq (a0:(Sl Z5)) (a1:Int):Z74 a0 a1=Z74_q a0 a1:=by
 unfold Z74 Z74_q;refine Qs ?_;refine Q.wrapOO fun Kb7 hKb7=>?_;refine Z74_l7_qe  Kb7 ?_ _ _ _ ⟨Nat.succ_pos _,by omega⟩;intro n7 s5_8 s6_9;refine Qe (hKb7 _) ?_;refine Q.wrapPO fun Kj3 hKj3=>?_;have hj3:∀(s5_4:Int),Z74_j3  s5_4=Kj3 s5_4:=by
  intro s5_4;refine Qe (hKj3 _) ?_;unfold Z74_j3;all_goals rfl
 all_goals exact hj3 _
def Z65_q41 (a1:Int):List Z4->Int->Option (Int)
 | [],s5_42=>some s5_42
 | h41::r41,s5_42=>bif (decide (s5_42<=a1)) then((addC s5_42 (1:Int)).bind fun x49=>on (h41) fun x50=>(addC x49 ((x50.FType.FWraps.l.length:Nat):Int)).bind fun x51=>on (h41) fun x52=>(Z74_q x52.FArgs a1).bind fun x53=>(addC x51 x53).bind fun x54=>on (h41) fun x55=>(Z73_q x55.FDirs a1).bind fun x56=>(addC x54 x56).bind fun x57=>Z65_q41 a1 (r41) x57) else(some s5_42)
theorem Z65_l41_qe {a1:Int}{s6_10:Nat}{x18:TDef}{k_next_8:Int->Nat->Option Int}  (Kb41:(Int)->Option Int) (hend:∀(n41:Nat) (s5_42:Int) (s8_43:Nat),Z65_j25 a1 s6_10 x18 k_next_8 s5_42=Kb41 s5_42):∀(n41:Nat) (s5_42:Int) (s8_43:Nat),(0<n41/\x18.FFields.l.length<s8_43+n41)->Z65_l41 a1 s6_10 x18 k_next_8 n41 s5_42 s8_43=Option.bind (Z65_q41 a1 (x18.FFields.l.drop s8_43) s5_42) Kb41:=by
 intro n41;induction n41 with
 | zero=>intro s5_42 s8_43 hn; exact absurd hn.1 (by omega)
 | succ n41 ih41 =>
  intro s5_42 s8_43 hn;rw [Z65_l41];by_cases hlt:s8_43<x18.FFields.l.length
  ·obtain⟨h41,hh41⟩:=Qa hlt;rw [Q.drop_of hh41,Z65_q41];refine Q.condAT (Q.ltT hlt) ?_;refine Q.condO ?_ ?_
   ·refine Q.bindO rfl fun x49=>?_;refine Q.bindPO hh41 fun x50 hx_x50=>?_;refine Q.bindO rfl fun x51=>?_;refine Q.bindPO hh41 fun x52 hx_x52=>?_;refine Q.bindO (Z74_eq _ _) fun x53=>?_;refine Q.bindO rfl fun x54=>?_;refine Q.bindPO hh41 fun x55 hx_x55=>?_;refine Q.bindO (Z73_eq _ _) fun x56=>?_;refine Q.bindO rfl fun x57=>?_;all_goals exact ih41 _ _ ⟨by omega,by omega⟩
   all_goals exact hend n41 s5_42 s8_43
  rw [dL (by omega),Z65_q41];refine Q.condAF (Q.ltF hlt) ?_;exact hend n41 s5_42 s8_43
def Z65_q28 (a1:Int):List Z6->Int->Option (Int)
 | [],s5_29=>some s5_29
 | h28::r28,s5_29=>bif (decide (s5_29<=a1)) then((addC s5_29 (1:Int)).bind fun x36=>on (h28) fun x37=>(Z73_q x37.FDirs a1).bind fun x38=>(addC x36 x38).bind fun x39=>Z65_q28 a1 (r28) x39) else(some s5_29)
theorem Z65_l28_qe {a1:Int}{s6_10:Nat}{x18:TDef}{k_next_8:Int->Nat->Option Int}  (Kb28:(Int)->Option Int) (hend:∀(n28:Nat) (s5_29:Int) (s9_30:Nat),Z65_j15 s6_10 k_next_8 s5_29=Kb28 s5_29):∀(n28:Nat) (s5_29:Int) (s9_30:Nat),(0<n28/\x18.FMembers.l.length<s9_30+n28)->Z65_l28 a1 s6_10 x18 k_next_8 n28 s5_29 s9_30=Option.bind (Z65_q28 a1 (x18.FMembers.l.drop s9_30) s5_29) Kb28:=by
 intro n28;induction n28 with
 | zero=>intro s5_29 s9_30 hn; exact absurd hn.1 (by omega)
 | succ n28 ih28 =>
  intro s5_29 s9_30 hn;rw [Z65_l28];by_cases hlt:s9_30<x18.FMembers.l.length
  ·obtain⟨h28,hh28⟩:=Qa hlt;rw [Q.drop_of hh28,Z65_q28];refine Q.condAT (Q.ltT hlt) ?_;refine Q.condO ?_ ?_
   ·refine Q.bindO rfl fun x36=>?_;refine Q.bindPO hh28 fun x37 hx_x37=>?_;refine Q.bindO (Z73_eq _ _) fun x38=>?_;refine Q.bindO rfl fun x39=>?_;all_goals exact ih28 _ _ ⟨by omega,by omega⟩
   all_goals exact hend n28 s5_29 s9_30
  rw [dL (by omega),Z65_q28];refine Q.condAF (Q.ltF hlt) ?_;exact hend n28 s5_29 s9_30
def Z65_q8 (a1:Int):List TDef->Int->Option (Int)
 | [],s5_9=>some s5_9
 | h8::r8,s5_9=>bif (decide (s5_9<=a1)) then(on (h8) fun x18=>(addC s5_9 ((x18.FImplements.l.length:Nat):Int)).bind fun x20=>(Z73_q x18.FDirs a1).bind fun x21=>(addC x20 x21).bind fun x22=>(Z74_q x18.FInputs a1).bind fun x23=>(addC x22 x23).bind fun x24=>Option.bind (Z65_q41 a1 x18.FFields.l x24) fun s5_42=>on (s5_42) fun s5_26=>Option.bind (Z65_q28 a1 x18.FMembers.l s5_26) fun s5_29=>on (s5_29) fun s5_16=>Z65_q8 a1 (r8) s5_16) else(some s5_9)
theorem Z65_l8_qe {a0:TDoc}{a1:Int}  (Kb8:(Int)->Option Int) (hend:∀(n8:Nat) (s5_9:Int) (s6_10:Nat),Z65_j4   s5_9=Kb8 s5_9):∀(n8:Nat) (s5_9:Int) (s6_10:Nat),(0<n8/\a0.FDefs.l.length<s6_10+n8)->Z65_l8 a0 a1 n8 s5_9 s6_10=Option.bind (Z65_q8 a1 (a0.FDefs.l.drop s6_10) s5_9) Kb8:=by
 intro n8;induction n8 with
 | zero=>intro s5_9 s6_10 hn; exact absurd hn.1 (by omega)
 | succ n8 ih8 =>
  intro s5_9 s6_10 hn;rw [Z65_l8];by_cases hlt:s6_10<a0.FDefs.l.length
  ·obtain⟨h8,hh8⟩:=Qa hlt;rw [Q.drop_of hh8,Z65_q8];refine Q.condAT (Q.ltT hlt) ?_;refine Q.condO ?_ ?_
   ·refine Q.bindPO hh8 fun x18 hx_x18=>?_;refine Q.bindO rfl fun x20=>?_;refine Q.bindO (Z73_eq _ _) fun x21=>?_;refine Q.bindO rfl fun x22=>?_;refine Q.bindO (Z74_eq _ _) fun x23=>?_;refine Q.bindO rfl fun x24=>?_;refine Q.wrapOO fun Kb41 hKb41=>?_;refine Z65_l41_qe  Kb41 ?_ _ _ _ ⟨Nat.succ_pos _,by omega⟩;intro n41 s5_42 s8_43;refine Qe (hKb41 _) ?_;refine Q.wrapPO fun Kj25 hKj25=>?_;have hj25:∀(s5_26:Int),Z65_j25 a1 s6_10 x18 (Z65_l8 a0 a1 n8) s5_26=Kj25 s5_26:=by
     intro s5_26;refine Qe (hKj25 _) ?_;unfold Z65_j25;refine Q.wrapOO fun Kb28 hKb28=>?_;refine Z65_l28_qe  Kb28 ?_ _ _ _ ⟨Nat.succ_pos _,by omega⟩;intro n28 s5_29 s9_30;refine Qe (hKb28 _) ?_;refine Q.wrapPO fun Kj15 hKj15=>?_;have hj15:∀(s5_16:Int),Z65_j15 s6_10 (Z65_l8 a0 a1 n8) s5_16=Kj15 s5_16:=by
      intro s5_16;refine Qe (hKj15 _) ?_;unfold Z65_j15;all_goals exact ih8 _ _ ⟨by omega,by omega⟩
     all_goals exact hj15 _
    all_goals exact hj25 _
   all_goals exact hend n8 s5_9 s6_10
  rw [dL (by omega),Z65_q8];refine Q.condAF (Q.ltF hlt) ?_;exact hend n8 s5_9 s6_10
def Z65_q (a0:TDoc) (a1:Int):Option Int:=Option.bind (Z65_q8 a1 a0.FDefs.l ((a0.FDefs.l.length:Nat):Int)) fun s5_9=>on (s5_9) fun s5_5=>some s5_5
theorem Z65_eq (a0:TDoc) (a1:Int):Z65 a0 a1=Z65_q a0 a1:=by
 unfold Z65 Z65_q;refine Qs ?_;refine Q.wrapOO fun Kb8 hKb8=>?_;refine Z65_l8_qe  Kb8 ?_ _ _ _ ⟨Nat.succ_pos _,by omega⟩;intro n8 s5_9 s6_10;refine Qe (hKb8 _) ?_;refine Q.wrapPO fun Kj4 hKj4=>?_;have hj4:∀(s5_5:Int),Z65_j4  s5_5=Kj4 s5_5:=by
  intro s5_5;refine Qe (hKj4 _) ?_;unfold Z65_j4;all_goals rfl
 all_goals exact hj4 _
def Z79_q6 (a1:Bs):List TDef->Unit ⊕ ((TDef×Bool))
 | []=>Sum.inl ()
 | h6::r6=>on (h6) fun x15=>bif ((x15.FName==a1)) then(on (h6) fun x18=>Sum.inr (x18,true)) else(Z79_q6 a1 (r6) )
theorem Z79_l6_qe {a0:TDoc}{a1:Bs}  (Kb6:(Unit ⊕ ((TDef×Bool)))->Option (TDef×Bool)) (hend:∀(n6:Nat) (s6_7:Nat) (y8_l0:TDef),Z79_j2   y8_l0=Kb6 (Sum.inl ())) (hret:∀e:(TDef×Bool),some e=Kb6 (Sum.inr e)):∀(n6:Nat) (s6_7:Nat) (y8_l0:TDef),(0<n6/\a0.FDefs.l.length<s6_7+n6)->Z79_l6 a0 a1 n6 s6_7 y8_l0=Kb6 (Z79_q6 a1 (a0.FDefs.l.drop s6_7) ):=by
 intro n6;induction n6 with
 | zero=>intro s6_7 y8_l0 hn; exact absurd hn.1 (by omega)
 | succ n6 ih6 =>
  intro s6_7 y8_l0 hn;rw [Z79_l6];by_cases hlt:s6_7<a0.FDefs.l.length
  ·obtain⟨h6,hh6⟩:=Qa hlt;rw [Q.drop_of hh6,Z79_q6];refine QT hlt ?_;refine Q.bindP hh6 fun x15 hx_x15=>?_;refine Q.condP ?_ ?_
   ·refine Q.bindP hh6 fun x18 hx_x18=>?_;all_goals exact hret _
   all_goals exact ih6 _ _ ⟨by omega,by omega⟩
  rw [dL (by omega),Z79_q6];refine QF hlt ?_;exact hend n6 s6_7 y8_l0
def Z79_q (a0:TDoc) (a1:Bs):(TDef×Bool):=on (Z79_q6 a1 a0.FDefs.l ) fun o6=>match o6 with|Sum.inl _=>(on (()) fun _=>((TDef.mk (0:Int) ([]:Bs) (Sl.nil:Sl Bs) (Sl.nil:Sl TDir) (Sl.nil:Sl Z4) (Sl.nil:Sl Z6) (Sl.nil:Sl Z5)),false))|Sum.inr e6=>(e6)
theorem Z79_eq (a0:TDoc) (a1:Bs):Z79 a0 a1=some (Z79_q a0 a1):=by
 unfold Z79 Z79_q;refine Q.wrapPP fun Kb6 hKb6=>?_;refine Z79_l6_qe  Kb6 ?_ ?_ _ _ _ ⟨Nat.succ_pos _,by omega⟩
 ·intro n6 s6_7 y8_l0;refine Qe (hKb6 _) ?_;try dsimp only
  refine Q.wrapPP fun Kj2 hKj2=>?_;have hj2:∀(y3_l0:TDef),Z79_j2  y3_l0=Kj2 ():=by
   intro y3_l0;refine Qe (hKj2 _) ?_;unfold Z79_j2;all_goals rfl
  all_goals exact hj2 _
 intro e6;refine Qe (hKb6 _) ?_;try dsimp only
 all_goals rfl
def Z83_q (a0:Bs):Bool:=(((((a0==([73,110,116]:Bs)))||((a0==([83,116,114,105,110,103]:Bs))))||((a0==([66,111,111,108,101,97,110]:Bs))))||((a0==([73,68]:Bs))))
theorem Z83_eq (a0:Bs):Z83 a0=some (Z83_q a0):=by
 unfold Z83 Z83_q;all_goals rfl
def Z37_q (a0:Bs):Option Bool:=guardO ((decide ((2:Int)<=((a0.length:Nat):Int)))) (a0[0]?) (0:UInt8) fun x4=>guardO (((decide ((2:Int)<=((a0.length:Nat):Int)))&&(decide (((x4.toNat:Nat):Int)=(95:Int))))) (a0[1]?) (0:UInt8) fun x5=>some (((decide ((2:Int)<=((a0.length:Nat):Int)))&&(decide (((x4.toNat:Nat):Int)=(95:Int))))&&(decide (((x5.toNat:Nat):Int)=(95:Int))))
theorem Z37_eq (a0:Bs):Z37 a0=Z37_q a0:=by
 unfold Z37 Z37_q;refine Qs ?_;refine Q.guardOO rfl fun x4=>?_;refine Q.guardOO rfl fun x5=>?_;all_goals rfl
def Z84_q (a0:Bs):Option Bool:=on (Z35_q a0) fun x3=>guardO (x3) (Z37_q a0) false fun x4=>some (x3&&(!x4))
theorem Z84_eq (a0:Bs):Z84 a0=Z84_q a0:=by
 unfold Z84 Z84_q;refine Qs ?_;refine Q.bindPO (Z35_eq _) fun x3 hx_x3=>?_;refine Q.guardOO (Z37_eq _) fun x4=>?_;all_goals rfl
def Z93_q (a0:Bs) (a1:Bool) (a2:Bool) (a3:Bs):Option (Sl Z3):=guardO (!a1) (Z84_q a0) false fun x12=>Option.bind (bif (a1||(!x12)) then((appC 24 (Sl.nil:Sl Z3) (⟨false,[(Z3.mk (6:Int) a3)]⟩:Sl Z3)).bind fun x14=>some x14) else(some (Sl.nil:Sl Z3))) fun s9_4=>Option.bind (bif a2 then((appC 24 s9_4 (⟨false,[(Z3.mk (7:Int) a3)]⟩:Sl Z3)).bind fun x10=>some x10) else(some s9_4)) fun s9_6=>some s9_6
theorem Z93_eq (a0:Bs) (a1:Bool) (a2:Bool) (a3:Bs):Z93 a0 a1 a2 a3=Z93_q a0 a1 a2 a3:=by
 unfold Z93 Z93_q;refine Qs ?_;refine Q.guardOO (Z84_eq _) fun x12=>?_;refine Q.wrapOO fun Kj3 hKj3=>?_;have hj3:∀(s9_4:(Sl Z3)),Z93_j3 a2 a3 s9_4=Kj3 s9_4:=by
  intro s9_4;refine Qe (hKj3 _) ?_;unfold Z93_j3;refine Q.wrapOO fun Kj5 hKj5=>?_;have hj5:∀(s9_6:(Sl Z3)),Z93_j5  s9_6=Kj5 s9_6:=by
   intro s9_6;refine Qe (hKj5 _) ?_;unfold Z93_j5;all_goals rfl
  refine Q.condO ?_ ?_
  ·refine Q.bindO rfl fun x10=>?_;all_goals exact hj5 _
  all_goals exact hj5 _
 refine Q.condO ?_ ?_
 ·refine Q.bindO rfl fun x14=>?_;all_goals exact hj3 _
 all_goals exact hj3 _
def Z87_q (a0:TDef):Bool:=on (bif (decide (a0.FKind=(1:Int))) then((decide (a0.FKind=(1:Int)))) else((decide (a0.FKind=(2:Int))))) fun s5_6=>bif s5_6 then((decide (((a0.FFields.l.length:Nat):Int)=(0:Int)))) else(on (bif (decide (a0.FKind=(3:Int))) then((decide (a0.FKind=(3:Int)))) else((decide (a0.FKind=(4:Int))))) fun s12_11=>bif s12_11 then((decide (((a0.FMembers.l.length:Nat):Int)=(0:Int)))) else(bif (decide (a0.FKind=(5:Int))) then((decide (((a0.FInputs.l.length:Nat):Int)=(0:Int)))) else(on (()) fun _=>false)))
theorem Z87_eq (a0:TDef):Z87 a0=some (Z87_q a0):=by
 unfold Z87 Z87_q;refine Q.wrapPP fun Kj5 hKj5=>?_;have hj5:∀(s5_6:Bool),Z87_j5 a0 s5_6=Kj5 s5_6:=by
  intro s5_6;refine Qe (hKj5 _) ?_;unfold Z87_j5;refine Q.condP ?_ ?_
  ·all_goals rfl
  refine Q.wrapPP fun Kj10 hKj10=>?_;have hj10:∀(s12_11:Bool),Z87_j10 a0 s12_11=Kj10 s12_11:=by
   intro s12_11;refine Qe (hKj10 _) ?_;unfold Z87_j10;refine Q.condP ?_ ?_
   ·all_goals rfl
   refine Q.condP ?_ ?_
   ·all_goals rfl
   refine Q.wrapPP fun Kj2 hKj2=>?_;have hj2:Z87_j2  =Kj2 ():=by
    refine Qe (hKj2 _) ?_;unfold Z87_j2;all_goals rfl
   all_goals exact hj2
  refine Q.condP ?_ ?_
  ·all_goals exact hj10 _
  all_goals exact hj10 _
 refine Q.condP ?_ ?_
 ·all_goals exact hj5 _
 all_goals exact hj5 _
def Z89_q5 (a1:Bs):List Bs->Unit ⊕ Bool
 | []=>Sum.inl ()
 | h5::r5=>on (h5) fun x13=>bif ((x13==a1)) then(Sum.inr true) else(Z89_q5 a1 (r5) )
theorem Z89_l5_qe {a0:(Sl Bs)}{a1:Bs}  (Kb5:(Unit ⊕ Bool)->Option Bool) (hend:∀(n5:Nat) (s5_6:Nat),Z89_j2   =Kb5 (Sum.inl ())) (hret:∀e:Bool,some e=Kb5 (Sum.inr e)):∀(n5:Nat) (s5_6:Nat),(0<n5/\a0.l.length<s5_6+n5)->Z89_l5 a0 a1 n5 s5_6=Kb5 (Z89_q5 a1 (a0.l.drop s5_6) ):=by
 intro n5;induction n5 with
 | zero=>intro s5_6 hn; exact absurd hn.1 (by omega)
 | succ n5 ih5 =>
  intro s5_6 hn;rw [Z89_l5];by_cases hlt:s5_6<a0.l.length
  ·obtain⟨h5,hh5⟩:=Qa hlt;rw [Q.drop_of hh5,Z89_q5];refine QT hlt ?_;refine Q.bindP hh5 fun x13 hx_x13=>?_;refine Q.condP ?_ ?_
   ·all_goals exact hret _
   all_goals exact ih5 _ ⟨by omega,by omega⟩
  rw [dL (by omega),Z89_q5];refine QF hlt ?_;exact hend n5 s5_6
def Z89_q (a0:(Sl Bs)) (a1:Bs):Bool:=on (Z89_q5 a1 a0.l ) fun o5=>match o5 with|Sum.inl _=>(on (()) fun _=>false)|Sum.inr e5=>(e5)
theorem Z89_eq (a0:(Sl Bs)) (a1:Bs):Z89 a0 a1=some (Z89_q a0 a1):=by
 unfold Z89 Z89_q;refine Q.wrapPP fun Kb5 hKb5=>?_;refine Z89_l5_qe  Kb5 ?_ ?_ _ _ ⟨Nat.succ_pos _,by omega⟩
 ·intro n5 s5_6;refine Qe (hKb5 _) ?_;try dsimp only
  refine Q.wrapPP fun Kj2 hKj2=>?_;have hj2:Z89_j2  =Kj2 ():=by
   refine Qe (hKj2 _) ?_;unfold Z89_j2;all_goals rfl
  all_goals exact hj2
 intro e5;refine Qe (hKb5 _) ?_;try dsimp only
 all_goals rfl
def Z86_q (a0:TRef):Option Bool:=guardO ((decide (((a0.FWraps.l.length:Nat):Int)=(1:Int)))) (a0.FWraps.l[0]?) (0:Int) fun x4=>some ((decide (((a0.FWraps.l.length:Nat):Int)=(1:Int)))&&(decide (x4=(1:Int))))
theorem Z86_eq (a0:TRef):Z86 a0=Z86_q a0:=by
 unfold Z86 Z86_q;refine Qs ?_;refine Q.guardOO rfl fun x4=>?_;all_goals rfl
def Z94_q6 (a0:TDoc) (a2:Bs):List Z5->(Sl Bs)->Option ((Sl Bs))
 | [],s3_7=>some s3_7
 | h6::r6,s3_7=>on (h6) fun x16=>on (Z79_q a0 x16.FType.FName) fun x18=>(Z86_q x16.FType).bind fun x20=>on (bif (x20&&(((x16.FType.FName==a2))||(x18.2&&(decide (x18.1.FKind=(5:Int)))))) then Z89_q s3_7 x16.FType.FName else false) fun x21=>Option.bind (bif ((x20&&(((x16.FType.FName==a2))||(x18.2&&(decide (x18.1.FKind=(5:Int))))))&&(!x21)) then((appC 16 s3_7 (⟨false,[x16.FType.FName]⟩:Sl Bs)).bind fun x23=>some x23) else(some s3_7)) fun s3_14=>Z94_q6 a0 a2 (r6) s3_14
theorem Z94_l6_qe {a0:TDoc}{a1:TDef}{a2:Bs}  (Kb6:((Sl Bs))->Option (Sl Bs)) (hend:∀(n6:Nat) (s3_7:(Sl Bs)) (s9_8:Nat),Z94_j2   s3_7=Kb6 s3_7):∀(n6:Nat) (s3_7:(Sl Bs)) (s9_8:Nat),(0<n6/\a1.FInputs.l.length<s9_8+n6)->Z94_l6 a0 a1 a2 n6 s3_7 s9_8=Option.bind (Z94_q6 a0 a2 (a1.FInputs.l.drop s9_8) s3_7) Kb6:=by
 intro n6;induction n6 with
 | zero=>intro s3_7 s9_8 hn; exact absurd hn.1 (by omega)
 | succ n6 ih6 =>
  intro s3_7 s9_8 hn;rw [Z94_l6];by_cases hlt:s9_8<a1.FInputs.l.length
  ·obtain⟨h6,hh6⟩:=Qa hlt;rw [Q.drop_of hh6,Z94_q6];refine QT hlt ?_;refine Q.bindPO hh6 fun x16 hx_x16=>?_;refine Q.bindPO (Z79_eq _ _) fun x18 hx_x18=>?_;refine Q.bindO (Z86_eq _) fun x20=>?_;refine Q.guardPO (Z89_eq _ _) fun x21 hx_x21=>?_;refine Q.wrapOO fun Kj13 hKj13=>?_;have hj13:∀(s3_14:(Sl Bs)),Z94_j13 s9_8 (Z94_l6 a0 a1 a2 n6) s3_14=Kj13 s3_14:=by
    intro s3_14;refine Qe (hKj13 _) ?_;unfold Z94_j13;all_goals exact ih6 _ _ ⟨by omega,by omega⟩
   refine Q.condO ?_ ?_
   ·refine Q.bindO rfl fun x23=>?_;all_goals exact hj13 _
   all_goals exact hj13 _
  rw [dL (by omega),Z94_q6];refine QF hlt ?_;exact hend n6 s3_7 s9_8
def Z94_q (a0:TDoc) (a1:TDef) (a2:Bs) (a3:(Sl Bs)):Option (Sl Bs):=Option.bind (Z94_q6 a0 a2 a1.FInputs.l a3) fun s3_7=>on (s3_7) fun s3_3=>some s3_3
theorem Z94_eq (a0:TDoc) (a1:TDef) (a2:Bs) (a3:(Sl Bs)):Z94 a0 a1 a2 a3=Z94_q a0 a1 a2 a3:=by
 unfold Z94 Z94_q;refine Qs ?_;refine Q.wrapOO fun Kb6 hKb6=>?_;refine Z94_l6_qe  Kb6 ?_ _ _ _ ⟨Nat.succ_pos _,by omega⟩;intro n6 s3_7 s9_8;refine Qe (hKb6 _) ?_;refine Q.wrapPO fun Kj2 hKj2=>?_;have hj2:∀(s3_3:(Sl Bs)),Z94_j2  s3_3=Kj2 s3_3:=by
  intro s3_3;refine Qe (hKj2 _) ?_;unfold Z94_j2;all_goals rfl
 all_goals exact hj2 _
def Z95_q (a0:TDoc) (a1:Int):Option (Sl Z3):=Z95 a0 a1
theorem Z95_eq (a0:TDoc) (a1:Int):Z95 a0 a1=Z95_q a0 a1:=rfl
def Z91_q (a0:TDoc) (a1:Bs):Bool:=on (Z79_q a0 a1) fun x3=>on (Z83_q a1) fun x5=>(x5||x3.2)
theorem Z91_eq (a0:TDoc) (a1:Bs):Z91 a0 a1=some (Z91_q a0 a1):=by
 unfold Z91 Z91_q;refine Q.bindP (Z79_eq _ _) fun x3 hx_x3=>?_;refine Q.bindP (Z83_eq _) fun x5 hx_x5=>?_;all_goals rfl
def Z80_q6 (a1:Bs):List Z5->Unit ⊕ ((Z5×Bool))
 | []=>Sum.inl ()
 | h6::r6=>on (h6) fun x15=>bif ((x15.FName==a1)) then(on (h6) fun x18=>Sum.inr (x18,true)) else(Z80_q6 a1 (r6) )
theorem Z80_l6_qe {a0:(Sl Z5)}{a1:Bs}  (Kb6:(Unit ⊕ ((Z5×Bool)))->Option (Z5×Bool)) (hend:∀(n6:Nat) (s6_7:Nat) (y8_l0:Z5),Z80_j2   y8_l0=Kb6 (Sum.inl ())) (hret:∀e:(Z5×Bool),some e=Kb6 (Sum.inr e)):∀(n6:Nat) (s6_7:Nat) (y8_l0:Z5),(0<n6/\a0.l.length<s6_7+n6)->Z80_l6 a0 a1 n6 s6_7 y8_l0=Kb6 (Z80_q6 a1 (a0.l.drop s6_7) ):=by
 intro n6;induction n6 with
 | zero=>intro s6_7 y8_l0 hn; exact absurd hn.1 (by omega)
 | succ n6 ih6 =>
  intro s6_7 y8_l0 hn;rw [Z80_l6];by_cases hlt:s6_7<a0.l.length
  ·obtain⟨h6,hh6⟩:=Qa hlt;rw [Q.drop_of hh6,Z80_q6];refine QT hlt ?_;refine Q.bindP hh6 fun x15 hx_x15=>?_;refine Q.condP ?_ ?_
   ·refine Q.bindP hh6 fun x18 hx_x18=>?_;all_goals exact hret _
   all_goals exact ih6 _ _ ⟨by omega,by omega⟩
  rw [dL (by omega),Z80_q6];refine QF hlt ?_;exact hend n6 s6_7 y8_l0
def Z80_q (a0:(Sl Z5)) (a1:Bs):(Z5×Bool):=on (Z80_q6 a1 a0.l ) fun o6=>match o6 with|Sum.inl _=>(on (()) fun _=>((Z5.mk ([]:Bs) TRef.zero false Z7.zero (Sl.nil:Sl TDir)),false))|Sum.inr e6=>(e6)
theorem Z80_eq (a0:(Sl Z5)) (a1:Bs):Z80 a0 a1=some (Z80_q a0 a1):=by
 unfold Z80 Z80_q;refine Q.wrapPP fun Kb6 hKb6=>?_;refine Z80_l6_qe  Kb6 ?_ ?_ _ _ _ ⟨Nat.succ_pos _,by omega⟩
 ·intro n6 s6_7 y8_l0;refine Qe (hKb6 _) ?_;try dsimp only
  refine Q.wrapPP fun Kj2 hKj2=>?_;have hj2:∀(y3_l0:Z5),Z80_j2  y3_l0=Kj2 ():=by
   intro y3_l0;refine Qe (hKj2 _) ?_;unfold Z80_j2;all_goals rfl
  all_goals exact hj2 _
 intro e6;refine Qe (hKb6 _) ?_;try dsimp only
 all_goals rfl
def Z82_q (a0:TDoc) (a1:Bs):Bool:=on (Z79_q a0 a1) fun x3=>on (Z83_q a1) fun x5=>(x5||(x3.2&&(decide (x3.1.FKind=(4:Int)))))
theorem Z82_eq (a0:TDoc) (a1:Bs):Z82 a0 a1=some (Z82_q a0 a1):=by
 unfold Z82 Z82_q;refine Q.bindP (Z79_eq _ _) fun x3 hx_x3=>?_;refine Q.bindP (Z83_eq _) fun x5 hx_x5=>?_;all_goals rfl
def Z81_q (a0:TDoc) (a1:Bs):Bool:=on (Z79_q a0 a1) fun x3=>on (Z82_q a0 a1) fun x5=>(x5||(x3.2&&(decide (x3.1.FKind=(5:Int)))))
theorem Z81_eq (a0:TDoc) (a1:Bs):Z81 a0 a1=some (Z81_q a0 a1):=by
 unfold Z81 Z81_q;refine Q.bindP (Z79_eq _ _) fun x3 hx_x3=>?_;refine Q.bindP (Z82_eq _ _) fun x5 hx_x5=>?_;all_goals rfl
def Z90_q7 (a0:TDoc) (a1:(Sl Z5)) (a2:Bs) (a3:Bs):List Z5->Nat->(Sl Z3)->Option ((Sl Z3))
 | [],s10_9,s9_8=>some s9_8
 | h7::r7,s10_9,s9_8=>on (h7) fun x17=>(catC a2 x17.FName).bind fun x18=>(catC x18 a3).bind fun x19=>on ((⟨a1.nl,a1.l.take s10_9⟩:Sl Z5)) fun x21=>on (h7) fun x22=>on (Z80_q x21 x22.FName) fun x23=>on (h7) fun x25=>(Z93_q x25.FName false x23.2 x19).bind fun x26=>(appC 24 s9_8 x26).bind fun x27=>on (h7) fun x29=>on (Z91_q a0 x29.FType.FName) fun x30=>Option.bind (bif (!x30) then((appC 24 x27 (⟨false,[(Z3.mk (8:Int) x19)]⟩:Sl Z3)).bind fun x32=>some x32) else(on (h7) fun x34=>on (Z81_q a0 x34.FType.FName) fun x35=>bif (!x35) then((appC 24 x27 (⟨false,[(Z3.mk (10:Int) x19)]⟩:Sl Z3)).bind fun x37=>some x37) else(some x27))) fun s9_15=>Z90_q7 a0 a1 a2 a3 (r7) (s10_9+1) s9_15
theorem Z90_l7_qe {a0:TDoc}{a1:(Sl Z5)}{a2:Bs}{a3:Bs}  (Kb7:((Sl Z3))->Option (Sl Z3)) (hend:∀(n7:Nat) (s9_8:(Sl Z3)) (s10_9:Nat),Z90_j3   s9_8=Kb7 s9_8):∀(n7:Nat) (s9_8:(Sl Z3)) (s10_9:Nat),(0<n7/\a1.l.length<s10_9+n7)->Z90_l7 a0 a1 a2 a3 n7 s9_8 s10_9=Option.bind (Z90_q7 a0 a1 a2 a3 (a1.l.drop s10_9) s10_9 s9_8) Kb7:=by
 intro n7;induction n7 with
 | zero=>intro s9_8 s10_9 hn; exact absurd hn.1 (by omega)
 | succ n7 ih7 =>
  intro s9_8 s10_9 hn;rw [Z90_l7];by_cases hlt:s10_9<a1.l.length
  ·obtain⟨h7,hh7⟩:=Qa hlt;rw [Q.drop_of hh7,Z90_q7];refine QT hlt ?_;refine Q.bindPO hh7 fun x17 hx_x17=>?_;refine Q.bindO rfl fun x18=>?_;refine Q.bindO rfl fun x19=>?_;refine Q.bindPO (Q.partC_take (by omega)) fun x21 hx_x21=>?_;refine Q.bindPO hh7 fun x22 hx_x22=>?_;refine Q.bindPO (Z80_eq _ _) fun x23 hx_x23=>?_;refine Q.bindPO hh7 fun x25 hx_x25=>?_;refine Q.bindO (Z93_eq _ _ _ _) fun x26=>?_
   refine Q.bindO rfl fun x27=>?_;refine Q.bindPO hh7 fun x29 hx_x29=>?_;refine Q.bindPO (Z91_eq _ _) fun x30 hx_x30=>?_;refine Q.wrapOO fun Kj14 hKj14=>?_;have hj14:∀(s9_15:(Sl Z3)),Z90_j14 s10_9 (Z90_l7 a0 a1 a2 a3 n7) s9_15=Kj14 s9_15:=by
    intro s9_15;refine Qe (hKj14 _) ?_;unfold Z90_j14;all_goals exact ih7 _ _ ⟨by omega,by omega⟩
   refine Q.condO ?_ ?_
   ·refine Q.bindO rfl fun x32=>?_;all_goals exact hj14 _
   refine Q.bindPO hh7 fun x34 hx_x34=>?_;refine Q.bindPO (Z81_eq _ _) fun x35 hx_x35=>?_;refine Q.condO ?_ ?_
   ·refine Q.bindO rfl fun x37=>?_;all_goals exact hj14 _
   all_goals exact hj14 _
  rw [dL (by omega),Z90_q7];refine QF hlt ?_;exact hend n7 s9_8 s10_9
def Z90_q (a0:TDoc) (a1:(Sl Z5)) (a2:Bs) (a3:Bs):Option (Sl Z3):=Option.bind (Z90_q7 a0 a1 a2 a3 a1.l 0 (Sl.nil:Sl Z3)) fun s9_8=>on (s9_8) fun s9_4=>some s9_4
theorem Z90_eq (a0:TDoc) (a1:(Sl Z5)) (a2:Bs) (a3:Bs):Z90 a0 a1 a2 a3=Z90_q a0 a1 a2 a3:=by
 unfold Z90 Z90_q;refine Qs ?_;refine Q.wrapOO fun Kb7 hKb7=>?_;refine Z90_l7_qe  Kb7 ?_ _ _ _ ⟨Nat.succ_pos _,by omega⟩;intro n7 s9_8 s10_9;refine Qe (hKb7 _) ?_;refine Q.wrapPO fun Kj3 hKj3=>?_;have hj3:∀(s9_4:(Sl Z3)),Z90_j3  s9_4=Kj3 s9_4:=by
  intro s9_4;refine Qe (hKj3 _) ?_;unfold Z90_j3;all_goals rfl
 all_goals exact hj3 _
def Z78_q6 (a1:Bs):List Z4->Unit ⊕ ((Z4×Bool))
 | []=>Sum.inl ()
 | h6::r6=>on (h6) fun x15=>bif ((x15.FName==a1)) then(on (h6) fun x18=>Sum.inr (x18,true)) else(Z78_q6 a1 (r6) )
theorem Z78_l6_qe {a0:TDef}{a1:Bs}  (Kb6:(Unit ⊕ ((Z4×Bool)))->Option (Z4×Bool)) (hend:∀(n6:Nat) (s6_7:Nat) (y8_l0:Z4),Z78_j2   y8_l0=Kb6 (Sum.inl ())) (hret:∀e:(Z4×Bool),some e=Kb6 (Sum.inr e)):∀(n6:Nat) (s6_7:Nat) (y8_l0:Z4),(0<n6/\a0.FFields.l.length<s6_7+n6)->Z78_l6 a0 a1 n6 s6_7 y8_l0=Kb6 (Z78_q6 a1 (a0.FFields.l.drop s6_7) ):=by
 intro n6;induction n6 with
 | zero=>intro s6_7 y8_l0 hn; exact absurd hn.1 (by omega)
 | succ n6 ih6 =>
  intro s6_7 y8_l0 hn;rw [Z78_l6];by_cases hlt:s6_7<a0.FFields.l.length
  ·obtain⟨h6,hh6⟩:=Qa hlt;rw [Q.drop_of hh6,Z78_q6];refine QT hlt ?_;refine Q.bindP hh6 fun x15 hx_x15=>?_;refine Q.condP ?_ ?_
   ·refine Q.bindP hh6 fun x18 hx_x18=>?_;all_goals exact hret _
   all_goals exact ih6 _ _ ⟨by omega,by omega⟩
  rw [dL (by omega),Z78_q6];refine QF hlt ?_;exact hend n6 s6_7 y8_l0
def Z78_q (a0:TDef) (a1:Bs):(Z4×Bool):=on (Z78_q6 a1 a0.FFields.l ) fun o6=>match o6 with|Sum.inl _=>(on (()) fun _=>((Z4.mk ([]:Bs) (Sl.nil:Sl Z5) TRef.zero (Sl.nil:Sl TDir)),false))|Sum.inr e6=>(e6)
theorem Z78_eq (a0:TDef) (a1:Bs):Z78 a0 a1=some (Z78_q a0 a1):=by
 unfold Z78 Z78_q;refine Q.wrapPP fun Kb6 hKb6=>?_;refine Z78_l6_qe  Kb6 ?_ ?_ _ _ _ ⟨Nat.succ_pos _,by omega⟩
 ·intro n6 s6_7 y8_l0;refine Qe (hKb6 _) ?_;try dsimp only
  refine Q.wrapPP fun Kj2 hKj2=>?_;have hj2:∀(y3_l0:Z4),Z78_j2  y3_l0=Kj2 ():=by
   intro y3_l0;refine Qe (hKj2 _) ?_;unfold Z78_j2;all_goals rfl
  all_goals exact hj2 _
 intro e6;refine Qe (hKb6 _) ?_;try dsimp only
 all_goals rfl
def Z88_q7 (a0:TDoc) (a1:TDef):List Z4->Nat->(Sl Z3)->Option ((Sl Z3))
 | [],s6_9,s5_8=>some s5_8
 | h7::r7,s6_9,s5_8=>on (h7) fun x17=>(catC a1.FName ([46]:Bs)).bind fun x19=>(catC x19 x17.FName).bind fun x20=>on ((⟨a1.FFields.nl,a1.FFields.l.take s6_9⟩:Sl Z4)) fun x22=>on (Z78_q (TDef.mk (0:Int) ([]:Bs) (Sl.nil:Sl Bs) (Sl.nil:Sl TDir) x22 (Sl.nil:Sl Z6) (Sl.nil:Sl Z5)) x17.FName) fun x23=>(Z93_q x17.FName false x23.2 x20).bind fun x25=>(appC 24 s5_8 x25).bind fun x26=>on (Z79_q a0 x17.FType.FName) fun x28=>on (Z91_q a0 x17.FType.FName) fun x35=>Option.bind (bif (!x35) then((appC 24 x26 (⟨false,[(Z3.mk (8:Int) x20)]⟩:Sl Z3)).bind fun x37=>some x37) else(on (Z83_q x17.FType.FName) fun x39=>bif (((!x39)&&x28.2)&&(decide (x28.1.FKind=(5:Int)))) then((appC 24 x26 (⟨false,[(Z3.mk (10:Int) x20)]⟩:Sl Z3)).bind fun x41=>some x41) else(some x26))) fun s5_30=>(catC x20 ([40]:Bs)).bind fun x31=>(Z90_q a0 x17.FArgs x31 ([41]:Bs)).bind fun x32=>(appC 24 s5_30 x32).bind fun x33=>on (x33) fun s5_15=>Z88_q7 a0 a1 (r7) (s6_9+1) s5_15
theorem Z88_l7_qe {a0:TDoc}{a1:TDef}  (Kb7:((Sl Z3))->Option (Sl Z3)) (hend:∀(n7:Nat) (s5_8:(Sl Z3)) (s6_9:Nat),Z88_j3   s5_8=Kb7 s5_8):∀(n7:Nat) (s5_8:(Sl Z3)) (s6_9:Nat),(0<n7/\a1.FFields.l.length<s6_9+n7)->Z88_l7 a0 a1 n7 s5_8 s6_9=Option.bind (Z88_q7 a0 a1 (a1.FFields.l.drop s6_9) s6_9 s5_8) Kb7:=by
 intro n7;induction n7 with
 | zero=>intro s5_8 s6_9 hn; exact absurd hn.1 (by omega)
 | succ n7 ih7 =>
  intro s5_8 s6_9 hn;rw [Z88_l7];by_cases hlt:s6_9<a1.FFields.l.length
  ·obtain⟨h7,hh7⟩:=Qa hlt;rw [Q.drop_of hh7,Z88_q7];refine QT hlt ?_;refine Q.bindPO hh7 fun x17 hx_x17=>?_;refine Q.bindO rfl fun x19=>?_;refine Q.bindO rfl fun x20=>?_;refine Q.bindPO (Q.partC_take (by omega)) fun x22 hx_x22=>?_;refine Q.bindPO (Z78_eq _ _) fun x23 hx_x23=>?_;refine Q.bindO (Z93_eq _ _ _ _) fun x25=>?_;refine Q.bindO rfl fun x26=>?_;refine Q.bindPO (Z79_eq _ _) fun x28 hx_x28=>?_
   refine Q.bindPO (Z91_eq _ _) fun x35 hx_x35=>?_;refine Q.wrapOO fun Kj29 hKj29=>?_;have hj29:∀(s5_30:(Sl Z3)),Z88_j29 a0 s6_9 x17 x20 (Z88_l7 a0 a1 n7) s5_30=Kj29 s5_30:=by
    intro s5_30;refine Qe (hKj29 _) ?_;unfold Z88_j29;refine Q.bindO rfl fun x31=>?_;refine Q.bindO (Z90_eq _ _ _ _) fun x32=>?_;refine Q.bindO rfl fun x33=>?_;refine Q.wrapPO fun Kj14 hKj14=>?_;have hj14:∀(s5_15:(Sl Z3)),Z88_j14 s6_9 (Z88_l7 a0 a1 n7) s5_15=Kj14 s5_15:=by
     intro s5_15;refine Qe (hKj14 _) ?_;unfold Z88_j14;all_goals exact ih7 _ _ ⟨by omega,by omega⟩
    all_goals exact hj14 _
   refine Q.condO ?_ ?_
   ·refine Q.bindO rfl fun x37=>?_;all_goals exact hj29 _
   refine Q.bindPO (Z83_eq _) fun x39 hx_x39=>?_;refine Q.condO ?_ ?_
   ·refine Q.bindO rfl fun x41=>?_;all_goals exact hj29 _
   all_goals exact hj29 _
  rw [dL (by omega),Z88_q7];refine QF hlt ?_;exact hend n7 s5_8 s6_9
def Z88_q (a0:TDoc) (a1:TDef):Option (Sl Z3):=Option.bind (Z88_q7 a0 a1 a1.FFields.l 0 (Sl.nil:Sl Z3)) fun s5_8=>on (s5_8) fun s5_4=>some s5_4
theorem Z88_eq (a0:TDoc) (a1:TDef):Z88 a0 a1=Z88_q a0 a1:=by
 unfold Z88 Z88_q;refine Qs ?_;refine Q.wrapOO fun Kb7 hKb7=>?_;refine Z88_l7_qe  Kb7 ?_ _ _ _ ⟨Nat.succ_pos _,by omega⟩;intro n7 s5_8 s6_9;refine Qe (hKb7 _) ?_;refine Q.wrapPO fun Kj3 hKj3=>?_;have hj3:∀(s5_4:(Sl Z3)),Z88_j3  s5_4=Kj3 s5_4:=by
  intro s5_4;refine Qe (hKj3 _) ?_;unfold Z88_j3;all_goals rfl
 all_goals exact hj3 _
def Z92_q26 (a0:TDef) (x17:Z6):Nat->Nat->Bool->Option (Bool)
 | 0,s7_28,s6_27=>some s6_27
 | r26+1,s7_28,s6_27=>guardO (!s6_27) (a0.FMembers.l[s7_28]?) Z6.zero fun x33=>Z92_q26 a0 x17 (r26) (s7_28+1) (s6_27||((x33.FName==x17.FName)))
theorem Z92_l26_qe {a0:TDef}{s3_8:(Sl Z3)}{s4_9:Nat}{x17:Z6}{k_next_7:(Sl Z3)->Nat->Option (Sl Z3)}  (Kb26:(Bool)->Option (Sl Z3)) (hend:∀(n26:Nat) (s6_27:Bool) (s7_28:Nat),Z92_j19 a0 s3_8 s4_9 x17 k_next_7 s6_27=Kb26 s6_27):∀(n26:Nat) (s6_27:Bool) (s7_28:Nat),(0<n26/\s4_9<s7_28+n26)->Z92_l26 a0 s3_8 s4_9 x17 k_next_7 n26 s6_27 s7_28=Option.bind (Z92_q26 a0 x17 (s4_9-s7_28) s7_28 s6_27) Kb26:=by
 intro n26;induction n26 with
 | zero=>intro s6_27 s7_28 hn; exact absurd hn.1 (by omega)
 | succ n26 ih26 =>
  intro s6_27 s7_28 hn;rw [Z92_l26];by_cases hlt:s7_28<s4_9
  ·rw [show s4_9-s7_28=(s4_9-(s7_28+1))+1 by omega,Z92_q26];refine QT hlt ?_;refine Q.guardOO rfl fun x33=>?_;all_goals exact ih26 _ _ ⟨by omega,by omega⟩
  rw [show s4_9-s7_28=0 by omega,Z92_q26];refine QF hlt ?_;exact hend n26 s6_27 s7_28
def Z92_q7 (a0:TDef):List Z6->Nat->(Sl Z3)->Option ((Sl Z3))
 | [],s4_9,s3_8=>some s3_8
 | h7::r7,s4_9,s3_8=>on (h7) fun x17=>Option.bind (Z92_q26 a0 x17 s4_9 0 false) fun s6_27=>on (s6_27) fun s6_20=>(catC a0.FName ([46]:Bs)).bind fun x21=>(catC x21 x17.FName).bind fun x22=>(Z93_q x17.FName ((((x17.FName==([116,114,117,101]:Bs)))||((x17.FName==([102,97,108,115,101]:Bs))))||((x17.FName==([110,117,108,108]:Bs)))) s6_20 x22).bind fun x23=>(appC 24 s3_8 x23).bind fun x24=>on (x24) fun s3_15=>Z92_q7 a0 (r7) (s4_9+1) s3_15
theorem Z92_l7_qe {a0:TDef}  (Kb7:((Sl Z3))->Option (Sl Z3)) (hend:∀(n7:Nat) (s3_8:(Sl Z3)) (s4_9:Nat),Z92_j3   s3_8=Kb7 s3_8):∀(n7:Nat) (s3_8:(Sl Z3)) (s4_9:Nat),(0<n7/\a0.FMembers.l.length<s4_9+n7)->Z92_l7 a0 n7 s3_8 s4_9=Option.bind (Z92_q7 a0 (a0.FMembers.l.drop s4_9) s4_9 s3_8) Kb7:=by
 intro n7;induction n7 with
 | zero=>intro s3_8 s4_9 hn; exact absurd hn.1 (by omega)
 | succ n7 ih7 =>
  intro s3_8 s4_9 hn;rw [Z92_l7];by_cases hlt:s4_9<a0.FMembers.l.length
  ·obtain⟨h7,hh7⟩:=Qa hlt;rw [Q.drop_of hh7,Z92_q7];refine QT hlt ?_;refine Q.bindPO hh7 fun x17 hx_x17=>?_;refine Q.wrapOO fun Kb26 hKb26=>?_;refine Z92_l26_qe  Kb26 ?_ _ _ _ ⟨Nat.succ_pos _,by omega⟩;intro n26 s6_27 s7_28;refine Qe (hKb26 _) ?_;refine Q.wrapPO fun Kj19 hKj19=>?_;have hj19:∀(s6_20:Bool),Z92_j19 a0 s3_8 s4_9 x17 (Z92_l7 a0 n7) s6_20=Kj19 s6_20:=by
    intro s6_20;refine Qe (hKj19 _) ?_;unfold Z92_j19;refine Q.bindO rfl fun x21=>?_;refine Q.bindO rfl fun x22=>?_;refine Q.bindO (Z93_eq _ _ _ _) fun x23=>?_;refine Q.bindO rfl fun x24=>?_;refine Q.wrapPO fun Kj14 hKj14=>?_;have hj14:∀(s3_15:(Sl Z3)),Z92_j14 s4_9 (Z92_l7 a0 n7) s3_15=Kj14 s3_15:=by
     intro s3_15;refine Qe (hKj14 _) ?_;unfold Z92_j14;all_goals exact ih7 _ _ ⟨by omega,by omega⟩
    all_goals exact hj14 _
   all_goals exact hj19 _
  rw [dL (by omega),Z92_q7];refine QF hlt ?_;exact hend n7 s3_8 s4_9
def Z92_q (a0:TDef):Option (Sl Z3):=Option.bind (Z92_q7 a0 a0.FMembers.l 0 (Sl.nil:Sl Z3)) fun s3_8=>on (s3_8) fun s3_4=>some s3_4
theorem Z92_eq (a0:TDef):Z92 a0=Z92_q a0:=by
 unfold Z92 Z92_q;refine Qs ?_;refine Q.wrapOO fun Kb7 hKb7=>?_;refine Z92_l7_qe  Kb7 ?_ _ _ _ ⟨Nat.succ_pos _,by omega⟩;intro n7 s3_8 s4_9;refine Qe (hKb7 _) ?_;refine Q.wrapPO fun Kj3 hKj3=>?_;have hj3:∀(s3_4:(Sl Z3)),Z92_j3  s3_4=Kj3 s3_4:=by
  intro s3_4;refine Qe (hKj3 _) ?_;unfold Z92_j3;all_goals rfl
 all_goals exact hj3 _
def Z77_q14 (a0:TDoc):List TDef->Nat->(Sl Z3)->Option ((Sl Z3))
 | [],s6_16,s5_15=>some s5_15
 | h14::r14,s6_16,s5_15=>on (h14) fun x24=>(Z95_q a0 ((s6_16:Nat):Int)).bind fun x26=>(appC 24 s5_15 x26).bind fun x27=>on (bif (decide (x24.FKind=(1:Int))) then((decide (x24.FKind=(1:Int)))) else((decide (x24.FKind=(2:Int))))) fun s29_30=>Option.bind (bif s29_30 then((Z88_q a0 x24).bind fun x32=>(appC 24 x27 x32).bind fun x33=>some x33) else(bif (decide (x24.FKind=(4:Int))) then((Z92_q x24).bind fun x36=>(appC 24 x27 x36).bind fun x37=>some x37) else(bif (decide (x24.FKind=(5:Int))) then((catC x24.FName ([46]:Bs)).bind fun x40=>(Z90_q a0 x24.FInputs x40 ([]:Bs)).bind fun x41=>(appC 24 x27 x41).bind fun x42=>some x42) else(some x27)))) fun s5_22=>Z77_q14 a0 (r14) (s6_16+1) s5_22
theorem Z77_l14_qe {a0:TDoc}{a1:Bool}  (Kb14:((Sl Z3))->Option (Sl Z3)) (hend:∀(n14:Nat) (s5_15:(Sl Z3)) (s6_16:Nat),Z77_j3 a0 a1  s5_15=Kb14 s5_15):∀(n14:Nat) (s5_15:(Sl Z3)) (s6_16:Nat),(0<n14/\a0.FDefs.l.length<s6_16+n14)->Z77_l14 a0 a1 n14 s5_15 s6_16=Option.bind (Z77_q14 a0 (a0.FDefs.l.drop s6_16) s6_16 s5_15) Kb14:=by
 intro n14;induction n14 with
 | zero=>intro s5_15 s6_16 hn; exact absurd hn.1 (by omega)
 | succ n14 ih14 =>
  intro s5_15 s6_16 hn;rw [Z77_l14];by_cases hlt:s6_16<a0.FDefs.l.length
  ·obtain⟨h14,hh14⟩:=Qa hlt;rw [Q.drop_of hh14,Z77_q14];refine QT hlt ?_;refine Q.bindPO hh14 fun x24 hx_x24=>?_;refine Q.bindO (Z95_eq _ _) fun x26=>?_;refine Q.bindO rfl fun x27=>?_;refine Q.wrapPO fun Kj29 hKj29=>?_;have hj29:∀(s29_30:Bool),Z77_j29 a0 s6_16 x24 x27 (Z77_l14 a0 a1 n14) s29_30=Kj29 s29_30:=by
    intro s29_30;refine Qe (hKj29 _) ?_;unfold Z77_j29;refine Q.wrapOO fun Kj21 hKj21=>?_;have hj21:∀(s5_22:(Sl Z3)),Z77_j21 s6_16 (Z77_l14 a0 a1 n14) s5_22=Kj21 s5_22:=by
     intro s5_22;refine Qe (hKj21 _) ?_;unfold Z77_j21;all_goals exact ih14 _ _ ⟨by omega,by omega⟩
    refine Q.condO ?_ ?_
    ·refine Q.bindO (Z88_eq _ _) fun x32=>?_;refine Q.bindO rfl fun x33=>?_;all_goals exact hj21 _
    refine Q.condO ?_ ?_
    ·refine Q.bindO (Z92_eq _) fun x36=>?_;refine Q.bindO rfl fun x37=>?_;all_goals exact hj21 _
    refine Q.condO ?_ ?_
    ·refine Q.bindO rfl fun x40=>?_;refine Q.bindO (Z90_eq _ _ _ _) fun x41=>?_;refine Q.bindO rfl fun x42=>?_;all_goals exact hj21 _
    all_goals exact hj21 _
   refine Q.condP ?_ ?_
   ·all_goals exact hj29 _
   all_goals exact hj29 _
  rw [dL (by omega),Z77_q14];refine QF hlt ?_;exact hend n14 s5_15 s6_16
def Z77_q (a0:TDoc) (a1:Bool):Option (Sl Z3):=Option.bind (Z77_q14 a0 a0.FDefs.l 0 (Sl.nil:Sl Z3)) fun s5_15=>on (s5_15) fun s5_4=>on (Z79_q a0 ([81,117,101,114,121]:Bs)) fun x6=>Option.bind (bif (a1&&(!x6.2)) then((appC 24 s5_4 (⟨false,[(Z3.mk (30:Int) ([81,117,101,114,121]:Bs))]⟩:Sl Z3)).bind fun x12=>some x12) else(some s5_4)) fun s5_8=>some s5_8
theorem Z77_eq (a0:TDoc) (a1:Bool):Z77 a0 a1=Z77_q a0 a1:=by
 unfold Z77 Z77_q;refine Qs ?_;refine Q.wrapOO fun Kb14 hKb14=>?_;refine Z77_l14_qe  Kb14 ?_ _ _ _ ⟨Nat.succ_pos _,by omega⟩;intro n14 s5_15 s6_16;refine Qe (hKb14 _) ?_;refine Q.wrapPO fun Kj3 hKj3=>?_;have hj3:∀(s5_4:(Sl Z3)),Z77_j3 a0 a1 s5_4=Kj3 s5_4:=by
  intro s5_4;refine Qe (hKj3 _) ?_;unfold Z77_j3;refine Q.bindPO (Z79_eq _ _) fun x6 hx_x6=>?_;refine Q.wrapOO fun Kj7 hKj7=>?_;have hj7:∀(s5_8:(Sl Z3)),Z77_j7  s5_8=Kj7 s5_8:=by
   intro s5_8;refine Qe (hKj7 _) ?_;unfold Z77_j7;all_goals rfl
  refine Q.condO ?_ ?_
  ·refine Q.bindO rfl fun x12=>?_;all_goals exact hj7 _
  all_goals exact hj7 _
 all_goals exact hj3 _
def Z103_q (a0:TDoc) (a1:Bs) (a2:Int):Int:=on (Z79_q a0 a1) fun x3=>on (bif (!x3.2) then Z83_q a1 else false) fun x6=>bif ((!x3.2)&&(!x6)) then((8:Int)) else(bif (!decide (x3.1.FKind=a2)) then((9:Int)) else((0:Int)))
theorem Z103_eq (a0:TDoc) (a1:Bs) (a2:Int):Z103 a0 a1 a2=some (Z103_q a0 a1 a2):=by
 unfold Z103 Z103_q;refine Q.bindP (Z79_eq _ _) fun x3 hx_x3=>?_;refine Q.guardP (Z83_eq _) fun x6 hx_x6=>?_;refine Q.condP ?_ ?_
 ·all_goals rfl
 refine Q.condP ?_ ?_
 ·all_goals rfl
 all_goals rfl
def Z102_q5 (a1:Bs):List Bs->Unit ⊕ Bool
 | []=>Sum.inl ()
 | h5::r5=>on (h5) fun x13=>bif ((x13==a1)) then(Sum.inr true) else(Z102_q5 a1 (r5) )
theorem Z102_l5_qe {a0:(Sl Bs)}{a1:Bs}  (Kb5:(Unit ⊕ Bool)->Option Bool) (hend:∀(n5:Nat) (s5_6:Nat),Z102_j2   =Kb5 (Sum.inl ())) (hret:∀e:Bool,some e=Kb5 (Sum.inr e)):∀(n5:Nat) (s5_6:Nat),(0<n5/\a0.l.length<s5_6+n5)->Z102_l5 a0 a1 n5 s5_6=Kb5 (Z102_q5 a1 (a0.l.drop s5_6) ):=by
 intro n5;induction n5 with
 | zero=>intro s5_6 hn; exact absurd hn.1 (by omega)
 | succ n5 ih5 =>
  intro s5_6 hn;rw [Z102_l5];by_cases hlt:s5_6<a0.l.length
  ·obtain⟨h5,hh5⟩:=Qa hlt;rw [Q.drop_of hh5,Z102_q5];refine QT hlt ?_;refine Q.bindP hh5 fun x13 hx_x13=>?_;refine Q.condP ?_ ?_
   ·all_goals exact hret _
   all_goals exact ih5 _ ⟨by omega,by omega⟩
  rw [dL (by omega),Z102_q5];refine QF hlt ?_;exact hend n5 s5_6
def Z102_q (a0:(Sl Bs)) (a1:Bs):Bool:=on (Z102_q5 a1 a0.l ) fun o5=>match o5 with|Sum.inl _=>(on (()) fun _=>false)|Sum.inr e5=>(e5)
theorem Z102_eq (a0:(Sl Bs)) (a1:Bs):Z102 a0 a1=some (Z102_q a0 a1):=by
 unfold Z102 Z102_q;refine Q.wrapPP fun Kb5 hKb5=>?_;refine Z102_l5_qe  Kb5 ?_ ?_ _ _ ⟨Nat.succ_pos _,by omega⟩
 ·intro n5 s5_6;refine Qe (hKb5 _) ?_;try dsimp only
  refine Q.wrapPP fun Kj2 hKj2=>?_;have hj2:Z102_j2  =Kj2 ():=by
   refine Qe (hKj2 _) ?_;unfold Z102_j2;all_goals rfl
  all_goals exact hj2
 intro e5;refine Qe (hKb5 _) ?_;try dsimp only
 all_goals rfl
def Z63_q11 (a1:(Sl Int)):List Int->Nat->Option (Unit ⊕ Bool)
 | [],s5_12=>some (Sum.inl ())
 | h11::r11,s5_12=>on (h11) fun x19=>(a1.l[s5_12]?).bind fun x20=>bif (!decide (x19=x20)) then(some (Sum.inr false)) else(Z63_q11 a1 (r11) (s5_12+1) )
theorem Z63_l11_qe {a0:(Sl Int)}{a1:(Sl Int)}  (Kb11:(Unit ⊕ Bool)->Option Bool) (hend:∀(n11:Nat) (s5_12:Nat),Z63_j8   =Kb11 (Sum.inl ())) (hret:∀e:Bool,some e=Kb11 (Sum.inr e)):∀(n11:Nat) (s5_12:Nat),(0<n11/\a0.l.length<s5_12+n11)->Z63_l11 a0 a1 n11 s5_12=Option.bind (Z63_q11 a1 (a0.l.drop s5_12) s5_12 ) Kb11:=by
 intro n11;induction n11 with
 | zero=>intro s5_12 hn; exact absurd hn.1 (by omega)
 | succ n11 ih11 =>
  intro s5_12 hn;rw [Z63_l11];by_cases hlt:s5_12<a0.l.length
  ·obtain⟨h11,hh11⟩:=Qa hlt;rw [Q.drop_of hh11,Z63_q11];refine QT hlt ?_;refine Q.bindPO hh11 fun x19 hx_x19=>?_;refine Q.bindO rfl fun x20=>?_;refine Q.condO ?_ ?_
   ·all_goals exact hret _
   all_goals exact ih11 _ ⟨by omega,by omega⟩
  rw [dL (by omega),Z63_q11];refine QF hlt ?_;exact hend n11 s5_12
def Z63_q (a0:(Sl Int)) (a1:(Sl Int)):Option Bool:=bif (!decide (((a0.l.length:Nat):Int)=((a1.l.length:Nat):Int))) then(some false) else(Option.bind (Z63_q11 a1 a0.l 0 ) fun o11=>match o11 with|Sum.inl _=>(on (()) fun _=>some true)|Sum.inr e11=>(some e11))
theorem Z63_eq (a0:(Sl Int)) (a1:(Sl Int)):Z63 a0 a1=Z63_q a0 a1:=by
 unfold Z63 Z63_q;refine Qs ?_;refine Q.condO ?_ ?_
 ·all_goals rfl
 refine Q.wrapOO fun Kb11 hKb11=>?_;refine Z63_l11_qe  Kb11 ?_ ?_ _ _ ⟨Nat.succ_pos _,by omega⟩
 ·intro n11 s5_12;refine Qe (hKb11 _) ?_;try dsimp only
  refine Q.wrapPO fun Kj8 hKj8=>?_;have hj8:Z63_j8  =Kj8 ():=by
   refine Qe (hKj8 _) ?_;unfold Z63_j8;all_goals rfl
  all_goals exact hj8
 intro e11;refine Qe (hKb11 _) ?_;try dsimp only
 all_goals rfl
def Z61_q (a0:TRef) (a1:TRef):Option Bool:=guardO (((a0.FName==a1.FName))) (Z63_q a0.FWraps a1.FWraps) false fun x3=>some (((a0.FName==a1.FName))&&x3)
theorem Z61_eq (a0:TRef) (a1:TRef):Z61 a0 a1=Z61_q a0 a1:=by
 unfold Z61 Z61_q;refine Qs ?_;refine Q.guardOO (Z63_eq _ _) fun x3=>?_;all_goals rfl
def Z57_q (a0:TRef):Bool:=on (bif (decide ((0:Int)<((a0.FWraps.l.length:Nat):Int))) then((a0.FWraps.l)[0]?.getD (0:Int)) else(0:Int)) fun x4=>((decide ((0:Int)<((a0.FWraps.l.length:Nat):Int)))&&(decide (x4=(1:Int))))
theorem Z57_eq (a0:TRef):Z57 a0=some (Z57_q a0):=by
 unfold Z57 Z57_q;refine Q.guardT (fun hc=>Q.getD_some (by simp at hc; omega)) fun x4 hx_x4=>?_;all_goals rfl
def Z62_q (a0:TRef):Option TRef:=(partC a0.FWraps (some (1:Int)) none).bind fun x3=>(appC 8 (⟨false,[]⟩:Sl Int) x3).bind fun x4=>some (TRef.mk a0.FName x4)
theorem Z62_eq (a0:TRef):Z62 a0=Z62_q a0:=by
 unfold Z62 Z62_q;refine Qs ?_;refine Q.bindO rfl fun x3=>?_;refine Q.bindO rfl fun x4=>?_;all_goals rfl
def Z58_q (a0:TRef):Option TRef:=on (Z57_q a0) fun x4=>bif x4 then((Z62_q a0).bind fun x7=>some x7) else((appC 8 (⟨false,[]⟩:Sl Int) a0.FWraps).bind fun x9=>some (TRef.mk a0.FName x9))
theorem Z58_eq (a0:TRef):Z58 a0=Z58_q a0:=by
 unfold Z58 Z58_q;refine Qs ?_;refine Q.bindPO (Z57_eq _) fun x4 hx_x4=>?_;refine Q.condO ?_ ?_
 ·refine Q.bindO (Z62_eq _) fun x7=>?_;all_goals rfl
 refine Q.bindO rfl fun x9=>?_;all_goals rfl
def Z56_q (a0:TRef):Option Bool:=(Z58_q a0).bind fun x3=>on (bif (decide ((0:Int)<((x3.FWraps.l.length:Nat):Int))) then((x3.FWraps.l)[0]?.getD (0:Int)) else(0:Int)) fun x6=>some ((decide ((0:Int)<((x3.FWraps.l.length:Nat):Int)))&&(decide (x6=(2:Int))))
theorem Z56_eq (a0:TRef):Z56 a0=Z56_q a0:=by
 unfold Z56 Z56_q;refine Qs ?_;refine Q.bindO (Z58_eq _) fun x3=>?_;refine Q.guardTO (fun hc=>Q.getD_some (by simp at hc; omega)) fun x6 hx_x6=>?_;all_goals rfl
def Z55_q (a0:TRef):Option (TRef×Bool):=(Z56_q a0).bind fun x4=>bif (!x4) then(some ((TRef.mk ([]:Bs) (Sl.nil:Sl Int)),false)) else((Z58_q a0).bind fun x8=>(Z62_q x8).bind fun x9=>some (x9,true))
theorem Z55_eq (a0:TRef):Z55 a0=Z55_q a0:=by
 unfold Z55 Z55_q;refine Qs ?_;refine Q.bindO (Z56_eq _) fun x4=>?_;refine Q.condO ?_ ?_
 ·all_goals rfl
 refine Q.bindO (Z58_eq _) fun x8=>?_;refine Q.bindO (Z62_eq _) fun x9=>?_;all_goals rfl
def Z104_q5 (a1:Bs):List Z6->Unit ⊕ Bool
 | []=>Sum.inl ()
 | h5::r5=>on (h5) fun x13=>bif ((x13.FName==a1)) then(Sum.inr true) else(Z104_q5 a1 (r5) )
theorem Z104_l5_qe {a0:TDef}{a1:Bs}  (Kb5:(Unit ⊕ Bool)->Option Bool) (hend:∀(n5:Nat) (s5_6:Nat),Z104_j2   =Kb5 (Sum.inl ())) (hret:∀e:Bool,some e=Kb5 (Sum.inr e)):∀(n5:Nat) (s5_6:Nat),(0<n5/\a0.FMembers.l.length<s5_6+n5)->Z104_l5 a0 a1 n5 s5_6=Kb5 (Z104_q5 a1 (a0.FMembers.l.drop s5_6) ):=by
 intro n5;induction n5 with
 | zero=>intro s5_6 hn; exact absurd hn.1 (by omega)
 | succ n5 ih5 =>
  intro s5_6 hn;rw [Z104_l5];by_cases hlt:s5_6<a0.FMembers.l.length
  ·obtain⟨h5,hh5⟩:=Qa hlt;rw [Q.drop_of hh5,Z104_q5];refine QT hlt ?_;refine Q.bindP hh5 fun x13 hx_x13=>?_;refine Q.condP ?_ ?_
   ·all_goals exact hret _
   all_goals exact ih5 _ ⟨by omega,by omega⟩
  rw [dL (by omega),Z104_q5];refine QF hlt ?_;exact hend n5 s5_6
def Z104_q (a0:TDef) (a1:Bs):Bool:=on (Z104_q5 a1 a0.FMembers.l ) fun o5=>match o5 with|Sum.inl _=>(on (()) fun _=>false)|Sum.inr e5=>(e5)
theorem Z104_eq (a0:TDef) (a1:Bs):Z104 a0 a1=some (Z104_q a0 a1):=by
 unfold Z104 Z104_q;refine Q.wrapPP fun Kb5 hKb5=>?_;refine Z104_l5_qe  Kb5 ?_ ?_ _ _ ⟨Nat.succ_pos _,by omega⟩
 ·intro n5 s5_6;refine Qe (hKb5 _) ?_;try dsimp only
  refine Q.wrapPP fun Kj2 hKj2=>?_;have hj2:Z104_j2  =Kj2 ():=by
   refine Qe (hKj2 _) ?_;unfold Z104_j2;all_goals rfl
  all_goals exact hj2
 intro e5;refine Qe (hKb5 _) ?_;try dsimp only
 all_goals rfl
def Z101_q (a0:TDoc) (a1:Int):Option Bool:=Z101 a0 a1
theorem Z101_eq (a0:TDoc) (a1:Int):Z101 a0 a1=Z101_q a0 a1:=rfl
def Z98_q9 (a0:TDoc) (a1:Bs) (x4:(TDef×Bool)):List TDef->Nat->(Sl Bs)->Option ((Sl Bs))
 | [],s8_11,s5_10=>some s5_10
 | h9::r9,s8_11,s5_10=>bif x4.2 then(on (h9) fun x19=>guardO (!(!decide (x19.FKind=(1:Int)))) (Z101_q a0 ((s8_11:Nat):Int)) false fun x22=>Option.bind (bif ((!decide (x19.FKind=(1:Int)))||(!x22)) then(some s5_10) else(on (bif (!((decide (x4.1.FKind=(1:Int)))&&((x19.FName==a1)))&&(decide (x4.1.FKind=(2:Int)))) then Z102_q x19.FImplements a1 else false) fun x26=>on (bif (!(((decide (x4.1.FKind=(1:Int)))&&((x19.FName==a1)))||((decide (x4.1.FKind=(2:Int)))&&x26))&&(decide (x4.1.FKind=(3:Int)))) then Z104_q x4.1 x19.FName else false) fun x28=>bif ((((decide (x4.1.FKind=(1:Int)))&&((x19.FName==a1)))||((decide (x4.1.FKind=(2:Int)))&&x26))||((decide (x4.1.FKind=(3:Int)))&&x28)) then((appC 16 s5_10 (⟨false,[x19.FName]⟩:Sl Bs)).bind fun x31=>some x31) else(some s5_10))) fun s5_17=>Z98_q9 a0 a1 x4 (r9) (s8_11+1) s5_17) else(some s5_10)
theorem Z98_l9_qe {a0:TDoc}{a1:Bs}{x4:(TDef×Bool)}  (Kb9:((Sl Bs))->Option (Sl Bs)) (hend:∀(n9:Nat) (s5_10:(Sl Bs)) (s8_11:Nat),Z98_j5   s5_10=Kb9 s5_10):∀(n9:Nat) (s5_10:(Sl Bs)) (s8_11:Nat),(0<n9/\a0.FDefs.l.length<s8_11+n9)->Z98_l9 a0 a1 x4 n9 s5_10 s8_11=Option.bind (Z98_q9 a0 a1 x4 (a0.FDefs.l.drop s8_11) s8_11 s5_10) Kb9:=by
 intro n9;induction n9 with
 | zero=>intro s5_10 s8_11 hn; exact absurd hn.1 (by omega)
 | succ n9 ih9 =>
  intro s5_10 s8_11 hn;rw [Z98_l9];by_cases hlt:s8_11<a0.FDefs.l.length
  ·obtain⟨h9,hh9⟩:=Qa hlt;rw [Q.drop_of hh9,Z98_q9];refine Q.condAT (Q.ltT hlt) ?_;refine Q.condO ?_ ?_
   ·refine Q.bindPO hh9 fun x19 hx_x19=>?_;refine Q.guardOO (Z101_eq _ _) fun x22=>?_;refine Q.wrapOO fun Kj16 hKj16=>?_;have hj16:∀(s5_17:(Sl Bs)),Z98_j16 s8_11 (Z98_l9 a0 a1 x4 n9) s5_17=Kj16 s5_17:=by
     intro s5_17;refine Qe (hKj16 _) ?_;unfold Z98_j16;all_goals exact ih9 _ _ ⟨by omega,by omega⟩
    refine Q.condO ?_ ?_
    ·all_goals exact hj16 _
    refine Q.guardPO (Z102_eq _ _) fun x26 hx_x26=>?_;refine Q.guardPO (Z104_eq _ _) fun x28 hx_x28=>?_;refine Q.condO ?_ ?_
    ·refine Q.bindO rfl fun x31=>?_;all_goals exact hj16 _
    all_goals exact hj16 _
   all_goals exact hend n9 s5_10 s8_11
  rw [dL (by omega),Z98_q9];refine Q.condAF (Q.ltF hlt) ?_;exact hend n9 s5_10 s8_11
def Z98_q (a0:TDoc) (a1:Bs):Option (Sl Bs):=on (Z79_q a0 a1) fun x4=>Option.bind (Z98_q9 a0 a1 x4 a0.FDefs.l 0 (Sl.nil:Sl Bs)) fun s5_10=>on (s5_10) fun s5_6=>some s5_6
theorem Z98_eq (a0:TDoc) (a1:Bs):Z98 a0 a1=Z98_q a0 a1:=by
 unfold Z98 Z98_q;refine Qs ?_;refine Q.bindPO (Z79_eq _ _) fun x4 hx_x4=>?_;refine Q.wrapOO fun Kb9 hKb9=>?_;refine Z98_l9_qe  Kb9 ?_ _ _ _ ⟨Nat.succ_pos _,by omega⟩;intro n9 s5_10 s8_11;refine Qe (hKb9 _) ?_;refine Q.wrapPO fun Kj5 hKj5=>?_;have hj5:∀(s5_6:(Sl Bs)),Z98_j5  s5_6=Kj5 s5_6:=by
  intro s5_6;refine Qe (hKj5 _) ?_;unfold Z98_j5;all_goals rfl
 all_goals exact hj5 _
def Z97_q (a0:TDoc) (a1:Bs) (a2:Bs):Option Bool:=(Z98_q a0 a2).bind fun x3=>on (Z102_q x3 a1) fun x4=>some x4
theorem Z97_eq (a0:TDoc) (a1:Bs) (a2:Bs):Z97 a0 a1 a2=Z97_q a0 a1 a2:=by
 unfold Z97 Z97_q;refine Qs ?_;refine Q.bindO (Z98_eq _ _) fun x3=>?_;refine Q.bindPO (Z102_eq _ _) fun x4 hx_x4=>?_;all_goals rfl
end Go.Proofs

namespace Go.Proofs
open Go Go.Ab
def Z99_qn:Nat->TDoc->TRef->TRef->Option Bool
 | 0,_,_,_=>none
 | n+1,a0,a1,a2=>on (Z57_q a2) fun x4=>bif x4 then(on (Z57_q a1) fun x7=>guardO (x7) (Z58_q a1) TRef.zero fun x8=>guardO (x7) (Z58_q a2) TRef.zero fun x9=>guardO (x7) ((Z99_qn n) a0 x8 x9) false fun x10=>some (x7&&x10)) else(on (Z57_q a1) fun x13=>bif x13 then((Z58_q a1).bind fun x16=>((Z99_qn n) a0 x16 a2).bind fun x17=>some x17) else((Z55_q a1).bind fun x19=>(Z55_q a2).bind fun x21=>bif (x19.2&&x21.2) then(((Z99_qn n) a0 x19.1 x21.1).bind fun x26=>some x26) else(guardO ((((!x19.2)&&(!x21.2))&&!((a1.FName==a2.FName)))) (Z97_q a0 a1.FName a2.FName) false fun x28=>some (((!x19.2)&&(!x21.2))&&(((a1.FName==a2.FName))||x28)))))
theorem Z99_qall:∀n:Nat,Z99_n n=Z99_qn n:=by
 intro n;induction n with
 | zero=>exact(by funext a0 a1 a2; first|rfl|(rw [Z99_n,Z99_qn]))
 | succ n ih =>
  funext a0 a1 a2
  refine Qs ?_;rw [Z99_n,Z99_qn];try rw [ih]
  refine Q.bindPO (Z57_eq _) fun x4 hx_x4=>?_;refine Q.condO ?_ ?_
  ·refine Q.bindPO (Z57_eq _) fun x7 hx_x7=>?_;refine Q.guardOO (Z58_eq _) fun x8=>?_;refine Q.guardOO (Z58_eq _) fun x9=>?_;refine Q.guardOO rfl fun x10=>?_;all_goals rfl
  refine Q.bindPO (Z57_eq _) fun x13 hx_x13=>?_;refine Q.condO ?_ ?_
  ·refine Q.bindO (Z58_eq _) fun x16=>?_;refine Q.bindO rfl fun x17=>?_;all_goals rfl
  refine Q.bindO (Z55_eq _) fun x19=>?_;refine Q.bindO (Z55_eq _) fun x21=>?_;refine Q.condO ?_ ?_
  ·refine Q.bindO rfl fun x26=>?_;all_goals rfl
  refine Q.guardOO (Z97_eq _ _ _) fun x28=>?_;all_goals rfl
def Z99_q (a0:TDoc) (a1:TRef) (a2:TRef):Option Bool:=Z99_qn F0 a0 a1 a2
theorem Z99_eq (a0:TDoc) (a1:TRef) (a2:TRef):Z99 a0 a1 a2=Z99_q a0 a1 a2:=by
 unfold Z99 Z99_q; rw [(Z99_qall F0)]
def Z100_q43 (x4:Bs) (x6:(Z4×Bool)):List Z5->(Sl Z3)->Option ((Sl Z3))
 | [],s10_44=>some s10_44
 | h43::r43,s10_44=>on (h43) fun x53=>on (Z80_q x6.1.FArgs x53.FName) fun x54=>on (bif !(!x54.2) then h43 else Z5.zero) fun x56=>guardO (!(!x54.2)) (Z61_q x54.1.FType x56.FType) false fun x57=>Option.bind (bif ((!x54.2)||(!x57)) then((catC x4 ([40]:Bs)).bind fun x59=>on (h43) fun x60=>(catC x59 x60.FName).bind fun x61=>(catC x61 ([41]:Bs)).bind fun x62=>(appC 24 s10_44 (⟨false,[(Z3.mk (22:Int) x62)]⟩:Sl Z3)).bind fun x63=>some x63) else(some s10_44)) fun s10_51=>Z100_q43 x4 x6 (r43) s10_51
theorem Z100_l43_qe {a2:Z4}{x4:Bs}{x6:(Z4×Bool)}  (Kb43:((Sl Z3))->Option (Sl Z3)) (hend:∀(n43:Nat) (s10_44:(Sl Z3)) (s11_45:Nat),Z100_j14 a2 x4 x6  s10_44=Kb43 s10_44):∀(n43:Nat) (s10_44:(Sl Z3)) (s11_45:Nat),(0<n43/\a2.FArgs.l.length<s11_45+n43)->Z100_l43 a2 x4 x6 n43 s10_44 s11_45=Option.bind (Z100_q43 x4 x6 (a2.FArgs.l.drop s11_45) s10_44) Kb43:=by
 intro n43;induction n43 with
 | zero=>intro s10_44 s11_45 hn; exact absurd hn.1 (by omega)
 | succ n43 ih43 =>
  intro s10_44 s11_45 hn;rw [Z100_l43];by_cases hlt:s11_45<a2.FArgs.l.length
  ·obtain⟨h43,hh43⟩:=Qa hlt;rw [Q.drop_of hh43,Z100_q43];refine QT hlt ?_;refine Q.bindPO hh43 fun x53 hx_x53=>?_;refine Q.bindPO (Z80_eq _ _) fun x54 hx_x54=>?_;refine Q.guardPO hh43 fun x56 hx_x56=>?_;refine Q.guardOO (Z61_eq _ _) fun x57=>?_;refine Q.wrapOO fun Kj50 hKj50=>?_;have hj50:∀(s10_51:(Sl Z3)),Z100_j50 s11_45 (Z100_l43 a2 x4 x6 n43) s10_51=Kj50 s10_51:=by
    intro s10_51;refine Qe (hKj50 _) ?_;unfold Z100_j50;all_goals exact ih43 _ _ ⟨by omega,by omega⟩
   refine Q.condO ?_ ?_
   ·refine Q.bindO rfl fun x59=>?_;refine Q.bindPO hh43 fun x60 hx_x60=>?_;refine Q.bindO rfl fun x61=>?_;refine Q.bindO rfl fun x62=>?_;refine Q.bindO rfl fun x63=>?_;all_goals exact hj50 _
   all_goals exact hj50 _
  rw [dL (by omega),Z100_q43];refine QF hlt ?_;exact hend n43 s10_44 s11_45
def Z100_q20 (a2:Z4) (x4:Bs):List Z5->(Sl Z3)->Option ((Sl Z3))
 | [],s10_21=>some s10_21
 | h20::r20,s10_21=>on (h20) fun x30=>on (Z80_q a2.FArgs x30.FName) fun x31=>on (bif (!x31.2) then h20 else Z5.zero) fun x33=>on (bif (!x31.2) then Z57_q x33.FType else false) fun x34=>on (bif ((!x31.2)&&x34) then h20 else Z5.zero) fun x35=>Option.bind (bif (((!x31.2)&&x34)&&(!x35.FHas)) then((catC x4 ([40]:Bs)).bind fun x37=>on (h20) fun x38=>(catC x37 x38.FName).bind fun x39=>(catC x39 ([41]:Bs)).bind fun x40=>(appC 24 s10_21 (⟨false,[(Z3.mk (22:Int) x40)]⟩:Sl Z3)).bind fun x41=>some x41) else(some s10_21)) fun s10_28=>Z100_q20 a2 x4 (r20) s10_28
theorem Z100_l20_qe {a2:Z4}{x4:Bs}{x6:(Z4×Bool)}  (Kb20:((Sl Z3))->Option (Sl Z3)) (hend:∀(n20:Nat) (s10_21:(Sl Z3)) (s14_22:Nat),Z100_j16   s10_21=Kb20 s10_21):∀(n20:Nat) (s10_21:(Sl Z3)) (s14_22:Nat),(0<n20/\x6.1.FArgs.l.length<s14_22+n20)->Z100_l20 a2 x4 x6 n20 s10_21 s14_22=Option.bind (Z100_q20 a2 x4 (x6.1.FArgs.l.drop s14_22) s10_21) Kb20:=by
 intro n20;induction n20 with
 | zero=>intro s10_21 s14_22 hn; exact absurd hn.1 (by omega)
 | succ n20 ih20 =>
  intro s10_21 s14_22 hn;rw [Z100_l20];by_cases hlt:s14_22<x6.1.FArgs.l.length
  ·obtain⟨h20,hh20⟩:=Qa hlt;rw [Q.drop_of hh20,Z100_q20];refine QT hlt ?_;refine Q.bindPO hh20 fun x30 hx_x30=>?_;refine Q.bindPO (Z80_eq _ _) fun x31 hx_x31=>?_;refine Q.guardPO hh20 fun x33 hx_x33=>?_;refine Q.guardPO (Z57_eq _) fun x34 hx_x34=>?_;refine Q.guardPO hh20 fun x35 hx_x35=>?_;refine Q.wrapOO fun Kj27 hKj27=>?_;have hj27:∀(s10_28:(Sl Z3)),Z100_j27 s14_22 (Z100_l20 a2 x4 x6 n20) s10_28=Kj27 s10_28:=by
    intro s10_28;refine Qe (hKj27 _) ?_;unfold Z100_j27;all_goals exact ih20 _ _ ⟨by omega,by omega⟩
   refine Q.condO ?_ ?_
   ·refine Q.bindO rfl fun x37=>?_;refine Q.bindPO hh20 fun x38 hx_x38=>?_;refine Q.bindO rfl fun x39=>?_;refine Q.bindO rfl fun x40=>?_;refine Q.bindO rfl fun x41=>?_;all_goals exact hj27 _
   all_goals exact hj27 _
  rw [dL (by omega),Z100_q20];refine QF hlt ?_;exact hend n20 s10_21 s14_22
def Z100_q (a0:TDoc) (a1:TDef) (a2:Z4):Option (Sl Z3):=(catC a1.FName ([46]:Bs)).bind fun x3=>(catC x3 a2.FName).bind fun x4=>on (Z78_q a1 a2.FName) fun x6=>bif (!x6.2) then(some (⟨false,[(Z3.mk (20:Int) x4)]⟩:Sl Z3)) else((Z99_q a0 x6.1.FType a2.FType).bind fun x65=>Option.bind (bif (!x65) then((appC 24 (Sl.nil:Sl Z3) (⟨false,[(Z3.mk (10:Int) x4)]⟩:Sl Z3)).bind fun x67=>some x67) else(some (Sl.nil:Sl Z3))) fun s10_13=>Option.bind (Z100_q43 x4 x6 a2.FArgs.l s10_13) fun s10_44=>on (s10_44) fun s10_15=>Option.bind (Z100_q20 a2 x4 x6.1.FArgs.l s10_15) fun s10_21=>on (s10_21) fun s10_17=>some s10_17)
theorem Z100_eq (a0:TDoc) (a1:TDef) (a2:Z4):Z100 a0 a1 a2=Z100_q a0 a1 a2:=by
 unfold Z100 Z100_q;refine Qs ?_;refine Q.bindO rfl fun x3=>?_;refine Q.bindO rfl fun x4=>?_;refine Q.bindPO (Z78_eq _ _) fun x6 hx_x6=>?_;refine Q.condO ?_ ?_
 ·all_goals rfl
 refine Q.bindO (Z99_eq _ _ _) fun x65=>?_;refine Q.wrapOO fun Kj12 hKj12=>?_;have hj12:∀(s10_13:(Sl Z3)),Z100_j12 a2 x4 x6 s10_13=Kj12 s10_13:=by
  intro s10_13;refine Qe (hKj12 _) ?_;unfold Z100_j12;refine Q.wrapOO fun Kb43 hKb43=>?_;refine Z100_l43_qe  Kb43 ?_ _ _ _ ⟨Nat.succ_pos _,by omega⟩;intro n43 s10_44 s11_45;refine Qe (hKb43 _) ?_;refine Q.wrapPO fun Kj14 hKj14=>?_;have hj14:∀(s10_15:(Sl Z3)),Z100_j14 a2 x4 x6 s10_15=Kj14 s10_15:=by
   intro s10_15;refine Qe (hKj14 _) ?_;unfold Z100_j14;refine Q.wrapOO fun Kb20 hKb20=>?_;refine Z100_l20_qe  Kb20 ?_ _ _ _ ⟨Nat.succ_pos _,by omega⟩;intro n20 s10_21 s14_22;refine Qe (hKb20 _) ?_;refine Q.wrapPO fun Kj16 hKj16=>?_;have hj16:∀(s10_17:(Sl Z3)),Z100_j16  s10_17=Kj16 s10_17:=by
    intro s10_17;refine Qe (hKj16 _) ?_;unfold Z100_j16;all_goals rfl
   all_goals exact hj16 _
  all_goals exact hj14 _
 refine Q.condO ?_ ?_
 ·refine Q.bindO rfl fun x67=>?_;all_goals exact hj12 _
 all_goals exact hj12 _
def Z105_q30 (a0:TDoc) (a1:TDef):List Z4->(Sl Z3)->Option ((Sl Z3))
 | [],s5_31=>some s5_31
 | h30::r30,s5_31=>on (h30) fun x38=>(Z100_q a0 a1 x38).bind fun x39=>(appC 24 s5_31 x39).bind fun x40=>Z105_q30 a0 a1 (r30) x40
theorem Z105_l30_qe {a0:TDoc}{a1:TDef}{s6_9:Nat}{x28:(TDef×Bool)}{k_next_7:(Sl Z3)->Nat->Option (Sl Z3)}  (Kb30:((Sl Z3))->Option (Sl Z3)) (hend:∀(n30:Nat) (s5_31:(Sl Z3)) (s10_32:Nat),Z105_j14 s6_9 k_next_7 s5_31=Kb30 s5_31):∀(n30:Nat) (s5_31:(Sl Z3)) (s10_32:Nat),(0<n30/\x28.1.FFields.l.length<s10_32+n30)->Z105_l30 a0 a1 s6_9 x28 k_next_7 n30 s5_31 s10_32=Option.bind (Z105_q30 a0 a1 (x28.1.FFields.l.drop s10_32) s5_31) Kb30:=by
 intro n30;induction n30 with
 | zero=>intro s5_31 s10_32 hn; exact absurd hn.1 (by omega)
 | succ n30 ih30 =>
  intro s5_31 s10_32 hn;rw [Z105_l30];by_cases hlt:s10_32<x28.1.FFields.l.length
  ·obtain⟨h30,hh30⟩:=Qa hlt;rw [Q.drop_of hh30,Z105_q30];refine QT hlt ?_;refine Q.bindPO hh30 fun x38 hx_x38=>?_;refine Q.bindO (Z100_eq _ _ _) fun x39=>?_;refine Q.bindO rfl fun x40=>?_;all_goals exact ih30 _ _ ⟨by omega,by omega⟩
  rw [dL (by omega),Z105_q30];refine QF hlt ?_;exact hend n30 s5_31 s10_32
def Z105_q7 (a0:TDoc) (a1:TDef):List Bs->Nat->(Sl Z3)->Option ((Sl Z3))
 | [],s6_9,s5_8=>some s5_8
 | h7::r7,s6_9,s5_8=>on (h7) fun x17=>on (Z103_q a0 x17 (2:Int)) fun x18=>on (bif (decide (x18=(0:Int))) then(⟨a1.FImplements.nl,a1.FImplements.l.take s6_9⟩:Sl Bs) else(Sl.nil:Sl Bs)) fun x42=>on (bif (decide (x18=(0:Int))) then h7 else([]:Bs)) fun x43=>on (bif (decide (x18=(0:Int))) then Z102_q x42 x43 else false) fun x44=>on (bif ((decide (x18=(0:Int)))&&x44) then((7:Int)) else(x18)) fun s7_20=>Option.bind (bif (!decide (s7_20=(0:Int))) then((appC 24 s5_8 (⟨false,[(Z3.mk s7_20 a1.FName)]⟩:Sl Z3)).bind fun x25=>some x25) else(on (h7) fun x27=>on (Z79_q a0 x27) fun x28=>Option.bind (Z105_q30 a0 a1 x28.1.FFields.l s5_8) fun s5_31=>some s5_31)) fun s5_15=>Z105_q7 a0 a1 (r7) (s6_9+1) s5_15
theorem Z105_l7_qe {a0:TDoc}{a1:TDef}  (Kb7:((Sl Z3))->Option (Sl Z3)) (hend:∀(n7:Nat) (s5_8:(Sl Z3)) (s6_9:Nat),Z105_j3   s5_8=Kb7 s5_8):∀(n7:Nat) (s5_8:(Sl Z3)) (s6_9:Nat),(0<n7/\a1.FImplements.l.length<s6_9+n7)->Z105_l7 a0 a1 n7 s5_8 s6_9=Option.bind (Z105_q7 a0 a1 (a1.FImplements.l.drop s6_9) s6_9 s5_8) Kb7:=by
 intro n7;induction n7 with
 | zero=>intro s5_8 s6_9 hn; exact absurd hn.1 (by omega)
 | succ n7 ih7 =>
  intro s5_8 s6_9 hn;rw [Z105_l7];by_cases hlt:s6_9<a1.FImplements.l.length
  ·obtain⟨h7,hh7⟩:=Qa hlt;rw [Q.drop_of hh7,Z105_q7];refine QT hlt ?_;refine Q.bindPO hh7 fun x17 hx_x17=>?_;refine Q.bindPO (Z103_eq _ _ _) fun x18 hx_x18=>?_;refine Q.guardPO (Q.partC_take (by omega)) fun x42 hx_x42=>?_;refine Q.guardPO hh7 fun x43 hx_x43=>?_;refine Q.guardPO (Z102_eq _ _) fun x44 hx_x44=>?_;refine Q.wrapPO fun Kj19 hKj19=>?_;have hj19:∀(s7_20:Int),Z105_j19 a0 a1 s5_8 s6_9 (Z105_l7 a0 a1 n7) s7_20=Kj19 s7_20:=by
    intro s7_20;refine Qe (hKj19 _) ?_;unfold Z105_j19;refine Q.wrapOO fun Kj14 hKj14=>?_;have hj14:∀(s5_15:(Sl Z3)),Z105_j14 s6_9 (Z105_l7 a0 a1 n7) s5_15=Kj14 s5_15:=by
     intro s5_15;refine Qe (hKj14 _) ?_;unfold Z105_j14;all_goals exact ih7 _ _ ⟨by omega,by omega⟩
    refine Q.condO ?_ ?_
    ·refine Q.bindO rfl fun x25=>?_;all_goals exact hj14 _
    refine Q.bindPO hh7 fun x27 hx_x27=>?_;refine Q.bindPO (Z79_eq _ _) fun x28 hx_x28=>?_;refine Q.wrapOO fun Kb30 hKb30=>?_;refine Z105_l30_qe  Kb30 ?_ _ _ _ ⟨Nat.succ_pos _,by omega⟩;intro n30 s5_31 s10_32;refine Qe (hKb30 _) ?_;all_goals exact hj14 _
   refine Q.condP ?_ ?_
   ·all_goals exact hj19 _
   all_goals exact hj19 _
  rw [dL (by omega),Z105_q7];refine QF hlt ?_;exact hend n7 s5_8 s6_9
def Z105_q (a0:TDoc) (a1:TDef):Option (Sl Z3):=Option.bind (Z105_q7 a0 a1 a1.FImplements.l 0 (Sl.nil:Sl Z3)) fun s5_8=>on (s5_8) fun s5_4=>some s5_4
theorem Z105_eq (a0:TDoc) (a1:TDef):Z105 a0 a1=Z105_q a0 a1:=by
 unfold Z105 Z105_q;refine Qs ?_;refine Q.wrapOO fun Kb7 hKb7=>?_;refine Z105_l7_qe  Kb7 ?_ _ _ _ ⟨Nat.succ_pos _,by omega⟩;intro n7 s5_8 s6_9;refine Qe (hKb7 _) ?_;refine Q.wrapPO fun Kj3 hKj3=>?_;have hj3:∀(s5_4:(Sl Z3)),Z105_j3  s5_4=Kj3 s5_4:=by
  intro s5_4;refine Qe (hKj3 _) ?_;unfold Z105_j3;all_goals rfl
 all_goals exact hj3 _
def Z106_q7 (a0:TDoc) (a1:TDef):List Z6->Nat->(Sl Z3)->Option ((Sl Z3))
 | [],s6_9,s5_8=>some s5_8
 | h7::r7,s6_9,s5_8=>on (h7) fun x17=>on (Z103_q a0 x17.FName (1:Int)) fun x19=>on (bif (decide (x19=(0:Int))) then(⟨a1.FMembers.nl,a1.FMembers.l.take s6_9⟩:Sl Z6) else(Sl.nil:Sl Z6)) fun x28=>on (bif (decide (x19=(0:Int))) then Z104_q (TDef.mk (0:Int) ([]:Bs) (Sl.nil:Sl Bs) (Sl.nil:Sl TDir) (Sl.nil:Sl Z4) x28 (Sl.nil:Sl Z5)) x17.FName else false) fun x29=>on (bif ((decide (x19=(0:Int)))&&x29) then((7:Int)) else(x19)) fun s8_21=>Option.bind (bif (!decide (s8_21=(0:Int))) then((catC a1.FName ([46]:Bs)).bind fun x24=>(catC x24 x17.FName).bind fun x25=>(appC 24 s5_8 (⟨false,[(Z3.mk s8_21 x25)]⟩:Sl Z3)).bind fun x26=>some x26) else(some s5_8)) fun s5_15=>Z106_q7 a0 a1 (r7) (s6_9+1) s5_15
theorem Z106_l7_qe {a0:TDoc}{a1:TDef}  (Kb7:((Sl Z3))->Option (Sl Z3)) (hend:∀(n7:Nat) (s5_8:(Sl Z3)) (s6_9:Nat),Z106_j3   s5_8=Kb7 s5_8):∀(n7:Nat) (s5_8:(Sl Z3)) (s6_9:Nat),(0<n7/\a1.FMembers.l.length<s6_9+n7)->Z106_l7 a0 a1 n7 s5_8 s6_9=Option.bind (Z106_q7 a0 a1 (a1.FMembers.l.drop s6_9) s6_9 s5_8) Kb7:=by
 intro n7;induction n7 with
 | zero=>intro s5_8 s6_9 hn; exact absurd hn.1 (by omega)
 | succ n7 ih7 =>
  intro s5_8 s6_9 hn;rw [Z106_l7];by_cases hlt:s6_9<a1.FMembers.l.length
  ·obtain⟨h7,hh7⟩:=Qa hlt;rw [Q.drop_of hh7,Z106_q7];refine QT hlt ?_;refine Q.bindPO hh7 fun x17 hx_x17=>?_;refine Q.bindPO (Z103_eq _ _ _) fun x19 hx_x19=>?_;refine Q.guardPO (Q.partC_take (by omega)) fun x28 hx_x28=>?_;refine Q.guardPO (Z104_eq _ _) fun x29 hx_x29=>?_;refine Q.wrapPO fun Kj20 hKj20=>?_;have hj20:∀(s8_21:Int),Z106_j20 a1 s5_8 s6_9 x17 (Z106_l7 a0 a1 n7) s8_21=Kj20 s8_21:=by
    intro s8_21;refine Qe (hKj20 _) ?_;unfold Z106_j20;refine Q.wrapOO fun Kj14 hKj14=>?_;have hj14:∀(s5_15:(Sl Z3)),Z106_j14 s6_9 (Z106_l7 a0 a1 n7) s5_15=Kj14 s5_15:=by
     intro s5_15;refine Qe (hKj14 _) ?_;unfold Z106_j14;all_goals exact ih7 _ _ ⟨by omega,by omega⟩
    refine Q.condO ?_ ?_
    ·refine Q.bindO rfl fun x24=>?_;refine Q.bindO rfl fun x25=>?_;refine Q.bindO rfl fun x26=>?_;all_goals exact hj14 _
    all_goals exact hj14 _
   refine Q.condP ?_ ?_
   ·all_goals exact hj20 _
   all_goals exact hj20 _
  rw [dL (by omega),Z106_q7];refine QF hlt ?_;exact hend n7 s5_8 s6_9
def Z106_q (a0:TDoc) (a1:TDef):Option (Sl Z3):=Option.bind (Z106_q7 a0 a1 a1.FMembers.l 0 (Sl.nil:Sl Z3)) fun s5_8=>on (s5_8) fun s5_4=>some s5_4
theorem Z106_eq (a0:TDoc) (a1:TDef):Z106 a0 a1=Z106_q a0 a1:=by
 unfold Z106 Z106_q;refine Qs ?_;refine Q.wrapOO fun Kb7 hKb7=>?_;refine Z106_l7_qe  Kb7 ?_ _ _ _ ⟨Nat.succ_pos _,by omega⟩;intro n7 s5_8 s6_9;refine Qe (hKb7 _) ?_;refine Q.wrapPO fun Kj3 hKj3=>?_;have hj3:∀(s5_4:(Sl Z3)),Z106_j3  s5_4=Kj3 s5_4:=by
  intro s5_4;refine Qe (hKj3 _) ?_;unfold Z106_j3;all_goals rfl
 all_goals exact hj3 _
def Z96_q7 (a0:TDoc):List TDef->(Sl Z3)->Option ((Sl Z3))
 | [],s3_8=>some s3_8
 | h7::r7,s3_8=>on (h7) fun x17=>Option.bind (bif (decide (x17.FKind=(1:Int))) then(on (h7) fun x20=>(Z105_q a0 x20).bind fun x21=>(appC 24 s3_8 x21).bind fun x22=>some x22) else(bif (decide (x17.FKind=(3:Int))) then(on (h7) fun x25=>(Z106_q a0 x25).bind fun x26=>(appC 24 s3_8 x26).bind fun x27=>some x27) else(some s3_8))) fun s3_15=>Z96_q7 a0 (r7) s3_15
theorem Z96_l7_qe {a0:TDoc}  (Kb7:((Sl Z3))->Option (Sl Z3)) (hend:∀(n7:Nat) (s3_8:(Sl Z3)) (s4_9:Nat),Z96_j3   s3_8=Kb7 s3_8):∀(n7:Nat) (s3_8:(Sl Z3)) (s4_9:Nat),(0<n7/\a0.FDefs.l.length<s4_9+n7)->Z96_l7 a0 n7 s3_8 s4_9=Option.bind (Z96_q7 a0 (a0.FDefs.l.drop s4_9) s3_8) Kb7:=by
 intro n7;induction n7 with
 | zero=>intro s3_8 s4_9 hn; exact absurd hn.1 (by omega)
 | succ n7 ih7 =>
  intro s3_8 s4_9 hn;rw [Z96_l7];by_cases hlt:s4_9<a0.FDefs.l.length
  ·obtain⟨h7,hh7⟩:=Qa hlt;rw [Q.drop_of hh7,Z96_q7];refine QT hlt ?_;refine Q.bindPO hh7 fun x17 hx_x17=>?_;refine Q.wrapOO fun Kj14 hKj14=>?_;have hj14:∀(s3_15:(Sl Z3)),Z96_j14 s4_9 (Z96_l7 a0 n7) s3_15=Kj14 s3_15:=by
    intro s3_15;refine Qe (hKj14 _) ?_;unfold Z96_j14;all_goals exact ih7 _ _ ⟨by omega,by omega⟩
   refine Q.condO ?_ ?_
   ·refine Q.bindPO hh7 fun x20 hx_x20=>?_;refine Q.bindO (Z105_eq _ _) fun x21=>?_;refine Q.bindO rfl fun x22=>?_;all_goals exact hj14 _
   refine Q.condO ?_ ?_
   ·refine Q.bindPO hh7 fun x25 hx_x25=>?_;refine Q.bindO (Z106_eq _ _) fun x26=>?_;refine Q.bindO rfl fun x27=>?_;all_goals exact hj14 _
   all_goals exact hj14 _
  rw [dL (by omega),Z96_q7];refine QF hlt ?_;exact hend n7 s3_8 s4_9
def Z96_q (a0:TDoc):Option (Sl Z3):=Option.bind (Z96_q7 a0 a0.FDefs.l (Sl.nil:Sl Z3)) fun s3_8=>on (s3_8) fun s3_4=>some s3_4
theorem Z96_eq (a0:TDoc):Z96 a0=Z96_q a0:=by
 unfold Z96 Z96_q;refine Qs ?_;refine Q.wrapOO fun Kb7 hKb7=>?_;refine Z96_l7_qe  Kb7 ?_ _ _ _ ⟨Nat.succ_pos _,by omega⟩;intro n7 s3_8 s4_9;refine Qe (hKb7 _) ?_;refine Q.wrapPO fun Kj3 hKj3=>?_;have hj3:∀(s3_4:(Sl Z3)),Z96_j3  s3_4=Kj3 s3_4:=by
  intro s3_4;refine Qe (hKj3 _) ?_;unfold Z96_j3;all_goals rfl
 all_goals exact hj3 _
def Z32_q (a0:TDoc):Option Bool:=(Z65_q a0 (600:Int)).bind fun x3=>guardO (((decide (x3<=(600:Int)))&&!(decide (((a0.FDefs.l.length:Nat):Int)=(0:Int))))) (Z64_q a0) false fun x4=>guardO (((decide (x3<=(600:Int)))&&((decide (((a0.FDefs.l.length:Nat):Int)=(0:Int)))||x4))) (Z77_q a0 false) (Sl.nil:Sl Z3) fun x5=>guardO ((((decide (x3<=(600:Int)))&&((decide (((a0.FDefs.l.length:Nat):Int)=(0:Int)))||x4))&&(decide (((x5.l.length:Nat):Int)=(0:Int))))) (Z96_q a0) (Sl.nil:Sl Z3) fun x6=>some ((((decide (x3<=(600:Int)))&&((decide (((a0.FDefs.l.length:Nat):Int)=(0:Int)))||x4))&&(decide (((x5.l.length:Nat):Int)=(0:Int))))&&(decide (((x6.l.length:Nat):Int)=(0:Int))))
theorem Z32_eq (a0:TDoc):Z32 a0=Z32_q a0:=by
 unfold Z32 Z32_q;refine Qs ?_;refine Q.bindO (Z65_eq _ _) fun x3=>?_;refine Q.guardOO (Z64_eq _) fun x4=>?_;refine Q.guardOO (Z77_eq _ _) fun x5=>?_;refine Q.guardOO (Z96_eq _) fun x6=>?_;all_goals rfl
def Z119_q7 (a1:Bs):List TDef->Unit ⊕ ((TDef×Bool))
 | []=>Sum.inl ()
 | h7::r7=>on (h7) fun x15=>bif ((x15.FName==a1)) then(Sum.inr (x15,true)) else(Z119_q7 a1 (r7) )
theorem Z119_l7_qe {a0:TDoc}{a1:Bs}  (Kb7:(Unit ⊕ ((TDef×Bool)))->Option (TDef×Bool)) (hend:∀(n7:Nat) (s11_8:Nat) (y9_l0:TDef),Z119_j2   y9_l0=Kb7 (Sum.inl ())) (hret:∀e:(TDef×Bool),some e=Kb7 (Sum.inr e)):∀(n7:Nat) (s11_8:Nat) (y9_l0:TDef),(0<n7/\a0.FDefs.l.length<s11_8+n7)->Z119_l7 a0 a1 n7 s11_8 y9_l0=Kb7 (Z119_q7 a1 (a0.FDefs.l.drop s11_8) ):=by
 intro n7;induction n7 with
 | zero=>intro s11_8 y9_l0 hn; exact absurd hn.1 (by omega)
 | succ n7 ih7 =>
  intro s11_8 y9_l0 hn;rw [Z119_l7];by_cases hlt:s11_8<a0.FDefs.l.length
  ·obtain⟨h7,hh7⟩:=Qa hlt;rw [Q.drop_of hh7,Z119_q7];refine QT hlt ?_;refine Q.bindP hh7 fun x15 hx_x15=>?_;refine Q.condP ?_ ?_
   ·all_goals exact hret _
   all_goals exact ih7 _ _ ⟨by omega,by omega⟩
  rw [dL (by omega),Z119_q7];refine QF hlt ?_;exact hend n7 s11_8 y9_l0
def Z119_q (a0:TDoc) (a1:Bs):(TDef×Bool):=on (Z119_q7 a1 a0.FDefs.l ) fun o7=>match o7 with|Sum.inl _=>(on (()) fun _=>((TDef.mk (0:Int) ([]:Bs) (Sl.nil:Sl Bs) (Sl.nil:Sl TDir) (Sl.nil:Sl Z4) (Sl.nil:Sl Z6) (Sl.nil:Sl Z5)),false))|Sum.inr e7=>(e7)
theorem Z119_eq (a0:TDoc) (a1:Bs):Z119 a0 a1=some (Z119_q a0 a1):=by
 unfold Z119 Z119_q;refine Q.wrapPP fun Kb7 hKb7=>?_;refine Z119_l7_qe  Kb7 ?_ ?_ _ _ _ ⟨Nat.succ_pos _,by omega⟩
 ·intro n7 s11_8 y9_l0;refine Qe (hKb7 _) ?_;try dsimp only
  refine Q.wrapPP fun Kj2 hKj2=>?_;have hj2:∀(y3_l0:TDef),Z119_j2  y3_l0=Kj2 ():=by
   intro y3_l0;refine Qe (hKj2 _) ?_;unfold Z119_j2;all_goals rfl
  all_goals exact hj2 _
 intro e7;refine Qe (hKb7 _) ?_;try dsimp only
 all_goals rfl
def Z13_q (a0:Z0) (a1:Int) (a2:Bs) (a3:Bs) (a4:Bs) (a5:Bs):Option Z0:=(appC 88 a0.Fout (⟨false,[(Z2.mk a1 a0.Fname a2 a3 a4 a5)]⟩:Sl Z2)).bind fun x1=>some (Z0.mk a0.Fname x1)
theorem Z13_eq (a0:Z0) (a1:Int) (a2:Bs) (a3:Bs) (a4:Bs) (a5:Bs):Z13 a0 a1 a2 a3 a4 a5=Z13_q a0 a1 a2 a3 a4 a5:=by
 unfold Z13 Z13_q;refine Qs ?_;refine Q.bindO rfl fun x1=>?_;all_goals rfl
def Z20_q (a0:Int):Bs:=bif (decide (a0=(1:Int))) then(([116,121,112,101]:Bs)) else(bif (decide (a0=(2:Int))) then(([105,110,116,101,114,102,97,99,101]:Bs)) else(bif (decide (a0=(3:Int))) then(([117,110,105,111,110]:Bs)) else(bif (decide (a0=(4:Int))) then(([101,110,117,109]:Bs)) else(([105,110,112,117,116]:Bs)))))
theorem Z20_eq (a0:Int):Z20 a0=some (Z20_q a0):=by
 unfold Z20 Z20_q;refine Q.condP ?_ ?_
 ·all_goals rfl
 refine Q.condP ?_ ?_
 ·all_goals rfl
 refine Q.condP ?_ ?_
 ·all_goals rfl
 refine Q.condP ?_ ?_
 ·all_goals rfl
 all_goals rfl
def Z118_q7 (a1:Bs):List Z4->Unit ⊕ ((Z4×Bool))
 | []=>Sum.inl ()
 | h7::r7=>on (h7) fun x15=>bif ((x15.FName==a1)) then(Sum.inr (x15,true)) else(Z118_q7 a1 (r7) )
theorem Z118_l7_qe {a0:TDef}{a1:Bs}  (Kb7:(Unit ⊕ ((Z4×Bool)))->Option (Z4×Bool)) (hend:∀(n7:Nat) (s11_8:Nat) (y9_l0:Z4),Z118_j2   y9_l0=Kb7 (Sum.inl ())) (hret:∀e:(Z4×Bool),some e=Kb7 (Sum.inr e)):∀(n7:Nat) (s11_8:Nat) (y9_l0:Z4),(0<n7/\a0.FFields.l.length<s11_8+n7)->Z118_l7 a0 a1 n7 s11_8 y9_l0=Kb7 (Z118_q7 a1 (a0.FFields.l.drop s11_8) ):=by
 intro n7;induction n7 with
 | zero=>intro s11_8 y9_l0 hn; exact absurd hn.1 (by omega)
 | succ n7 ih7 =>
  intro s11_8 y9_l0 hn;rw [Z118_l7];by_cases hlt:s11_8<a0.FFields.l.length
  ·obtain⟨h7,hh7⟩:=Qa hlt;rw [Q.drop_of hh7,Z118_q7];refine QT hlt ?_;refine Q.bindP hh7 fun x15 hx_x15=>?_;refine Q.condP ?_ ?_
   ·all_goals exact hret _
   all_goals exact ih7 _ _ ⟨by omega,by omega⟩
  rw [dL (by omega),Z118_q7];refine QF hlt ?_;exact hend n7 s11_8 y9_l0
def Z118_q (a0:TDef) (a1:Bs):(Z4×Bool):=on (Z118_q7 a1 a0.FFields.l ) fun o7=>match o7 with|Sum.inl _=>(on (()) fun _=>((Z4.mk ([]:Bs) (Sl.nil:Sl Z5) TRef.zero (Sl.nil:Sl TDir)),false))|Sum.inr e7=>(e7)
theorem Z118_eq (a0:TDef) (a1:Bs):Z118 a0 a1=some (Z118_q a0 a1):=by
 unfold Z118 Z118_q;refine Q.wrapPP fun Kb7 hKb7=>?_;refine Z118_l7_qe  Kb7 ?_ ?_ _ _ _ ⟨Nat.succ_pos _,by omega⟩
 ·intro n7 s11_8 y9_l0;refine Qe (hKb7 _) ?_;try dsimp only
  refine Q.wrapPP fun Kj2 hKj2=>?_;have hj2:∀(y3_l0:Z4),Z118_j2  y3_l0=Kj2 ():=by
   intro y3_l0;refine Qe (hKj2 _) ?_;unfold Z118_j2;all_goals rfl
  all_goals exact hj2 _
 intro e7;refine Qe (hKb7 _) ?_;try dsimp only
 all_goals rfl
def Z120_q7 (a1:Bs):List Z5->Unit ⊕ ((Z5×Bool))
 | []=>Sum.inl ()
 | h7::r7=>on (h7) fun x15=>bif ((x15.FName==a1)) then(Sum.inr (x15,true)) else(Z120_q7 a1 (r7) )
theorem Z120_l7_qe {a0:(Sl Z5)}{a1:Bs}  (Kb7:(Unit ⊕ ((Z5×Bool)))->Option (Z5×Bool)) (hend:∀(n7:Nat) (s10_8:Nat) (y9_l0:Z5),Z120_j2   y9_l0=Kb7 (Sum.inl ())) (hret:∀e:(Z5×Bool),some e=Kb7 (Sum.inr e)):∀(n7:Nat) (s10_8:Nat) (y9_l0:Z5),(0<n7/\a0.l.length<s10_8+n7)->Z120_l7 a0 a1 n7 s10_8 y9_l0=Kb7 (Z120_q7 a1 (a0.l.drop s10_8) ):=by
 intro n7;induction n7 with
 | zero=>intro s10_8 y9_l0 hn; exact absurd hn.1 (by omega)
 | succ n7 ih7 =>
  intro s10_8 y9_l0 hn;rw [Z120_l7];by_cases hlt:s10_8<a0.l.length
  ·obtain⟨h7,hh7⟩:=Qa hlt;rw [Q.drop_of hh7,Z120_q7];refine QT hlt ?_;refine Q.bindP hh7 fun x15 hx_x15=>?_;refine Q.condP ?_ ?_
   ·all_goals exact hret _
   all_goals exact ih7 _ _ ⟨by omega,by omega⟩
  rw [dL (by omega),Z120_q7];refine QF hlt ?_;exact hend n7 s10_8 y9_l0
def Z120_q (a0:(Sl Z5)) (a1:Bs):(Z5×Bool):=on (Z120_q7 a1 a0.l ) fun o7=>match o7 with|Sum.inl _=>(on (()) fun _=>((Z5.mk ([]:Bs) TRef.zero false Z7.zero (Sl.nil:Sl TDir)),false))|Sum.inr e7=>(e7)
theorem Z120_eq (a0:(Sl Z5)) (a1:Bs):Z120 a0 a1=some (Z120_q a0 a1):=by
 unfold Z120 Z120_q;refine Q.wrapPP fun Kb7 hKb7=>?_;refine Z120_l7_qe  Kb7 ?_ ?_ _ _ _ ⟨Nat.succ_pos _,by omega⟩
 ·intro n7 s10_8 y9_l0;refine Qe (hKb7 _) ?_;try dsimp only
  refine Q.wrapPP fun Kj2 hKj2=>?_;have hj2:∀(y3_l0:Z5),Z120_j2  y3_l0=Kj2 ():=by
   intro y3_l0;refine Qe (hKj2 _) ?_;unfold Z120_j2;all_goals rfl
  all_goals exact hj2 _
 intro e7;refine Qe (hKb7 _) ?_;try dsimp only
 all_goals rfl
def Z127_q12 (a1:(Sl Int)):List Int->Nat->Option (Unit ⊕ Bool)
 | [],s13_13=>some (Sum.inl ())
 | h12::r12,s13_13=>on (h12) fun x20=>(a1.l[s13_13]?).bind fun x21=>bif (!decide (x20=x21)) then(some (Sum.inr false)) else(Z127_q12 a1 (r12) (s13_13+1) )
theorem Z127_l12_qe {a0:(Sl Int)}{a1:(Sl Int)}  (Kb12:(Unit ⊕ Bool)->Option Bool) (hend:∀(n12:Nat) (s13_13:Nat),Z127_j8   =Kb12 (Sum.inl ())) (hret:∀e:Bool,some e=Kb12 (Sum.inr e)):∀(n12:Nat) (s13_13:Nat),(0<n12/\a0.l.length<s13_13+n12)->Z127_l12 a0 a1 n12 s13_13=Option.bind (Z127_q12 a1 (a0.l.drop s13_13) s13_13 ) Kb12:=by
 intro n12;induction n12 with
 | zero=>intro s13_13 hn; exact absurd hn.1 (by omega)
 | succ n12 ih12 =>
  intro s13_13 hn;rw [Z127_l12];by_cases hlt:s13_13<a0.l.length
  ·obtain⟨h12,hh12⟩:=Qa hlt;rw [Q.drop_of hh12,Z127_q12];refine QT hlt ?_;refine Q.bindPO hh12 fun x20 hx_x20=>?_;refine Q.bindO rfl fun x21=>?_;refine Q.condO ?_ ?_
   ·all_goals exact hret _
   all_goals exact ih12 _ ⟨by omega,by omega⟩
  rw [dL (by omega),Z127_q12];refine QF hlt ?_;exact hend n12 s13_13
def Z127_q (a0:(Sl Int)) (a1:(Sl Int)):Option Bool:=bif (!decide (((a0.l.length:Nat):Int)=((a1.l.length:Nat):Int))) then(some false) else(Option.bind (Z127_q12 a1 a0.l 0 ) fun o12=>match o12 with|Sum.inl _=>(on (()) fun _=>some true)|Sum.inr e12=>(some e12))
theorem Z127_eq (a0:(Sl Int)) (a1:(Sl Int)):Z127 a0 a1=Z127_q a0 a1:=by
 unfold Z127 Z127_q;refine Qs ?_;refine Q.condO ?_ ?_
 ·all_goals rfl
 refine Q.wrapOO fun Kb12 hKb12=>?_;refine Z127_l12_qe  Kb12 ?_ ?_ _ _ ⟨Nat.succ_pos _,by omega⟩
 ·intro n12 s13_13;refine Qe (hKb12 _) ?_;try dsimp only
  refine Q.wrapPO fun Kj8 hKj8=>?_;have hj8:Z127_j8  =Kj8 ():=by
   refine Qe (hKj8 _) ?_;unfold Z127_j8;all_goals rfl
  all_goals exact hj8
 intro e12;refine Qe (hKb12 _) ?_;try dsimp only
 all_goals rfl
def Z160_q (a0:TRef) (a1:TRef):Option Bool:=guardO (((a0.FName==a1.FName))) (Z127_q a0.FWraps a1.FWraps) false fun x3=>some (((a0.FName==a1.FName))&&x3)
theorem Z160_eq (a0:TRef) (a1:TRef):Z160 a0 a1=Z160_q a0 a1:=by
 unfold Z160 Z160_q;refine Qs ?_;refine Q.guardOO (Z127_eq _ _) fun x3=>?_;all_goals rfl
def Z132_q (a0:Strings_Builder) (a1:Int):Option (Unit×Strings_Builder):=(Z134_q a0).bind fun x3=>(appC 1 x3.Fbuf (⟨false,[a1]⟩:Sl Int)).bind fun x5=>some ((),(Strings_Builder.mk x3.Faddr x5))
theorem Z132_eq (a0:Strings_Builder) (a1:Int):Z132 a0 a1=Z132_q a0 a1:=by
 unfold Z132 Z132_q;refine Qs ?_;refine Q.bindO (Z134_eq _) fun x3=>?_;refine Q.bindO rfl fun x5=>?_;all_goals rfl
def Z159_q (a0:TRef):Option Bs:=Z159 a0
theorem Z159_eq (a0:TRef):Z159 a0=Z159_q a0:=rfl
def Z143_q (a0:Int):Option Bs:=(Z130_q a0).bind fun x3=>some x3
theorem Z143_eq (a0:Int):Z143 a0=Z143_q a0:=by
 unfold Z143 Z143_q;refine Qs ?_;refine Q.bindO (Z130_eq _) fun x3=>?_;all_goals rfl
def Z133_q (a0:Strings_Builder) (a1:Bs):Option (Int×Unit×Strings_Builder):=(Z134_q a0).bind fun x3=>(appC 1 x3.Fbuf (strSl a1)).bind fun x5=>some (((a1.length:Nat):Int),(),(Strings_Builder.mk x3.Faddr x5))
theorem Z133_eq (a0:Strings_Builder) (a1:Bs):Z133 a0 a1=Z133_q a0 a1:=by
 unfold Z133 Z133_q;refine Qs ?_;refine Q.bindO (Z134_eq _) fun x3=>?_;refine Q.bindO rfl fun x5=>?_;all_goals rfl
def Z145_q15 :List UInt8->Strings_Builder->Option (Strings_Builder)
 | [],y17_id3_3=>some y17_id3_3
 | h15::r15,y17_id3_3=>on (h15) fun x25=>on (bif (decide (((x25.toNat:Nat):Int)=(34:Int))) then((decide (((x25.toNat:Nat):Int)=(34:Int)))) else((decide (((x25.toNat:Nat):Int)=(92:Int))))) fun s33_28=>Option.bind (bif s33_28 then((Z132_q y17_id3_3 (92:Int)).bind fun x31=>(Z132_q x31.2 ((x25.toNat:Nat):Int)).bind fun x32=>some x32.2) else(bif (decide (((x25.toNat:Nat):Int)=(10:Int))) then((Z133_q y17_id3_3 ([92,110]:Bs)).bind fun x35=>some x35.2.2) else(bif (decide (((x25.toNat:Nat):Int)=(13:Int))) then((Z133_q y17_id3_3 ([92,114]:Bs)).bind fun x38=>some x38.2.2) else(bif (decide (((x25.toNat:Nat):Int)=(9:Int))) then((Z133_q y17_id3_3 ([92,116]:Bs)).bind fun x41=>some x41.2.2) else(bif ((decide ((32:Int)<=((x25.toNat:Nat):Int)))&&(decide (((x25.toNat:Nat):Int)<=(126:Int)))) then((Z132_q y17_id3_3 ((x25.toNat:Nat):Int)).bind fun x46=>some x46.2) else((Z133_q y17_id3_3 ([92,117,48,48]:Bs)).bind fun x48=>(idxC ([48,49,50,51,52,53,54,55,56,57,97,98,99,100,101,102]:Bs) (Int.fdiv ((x25.toNat:Nat):Int) (2 ^ (min (Int.toNat 4) (IntKind.bits .u8))))).bind fun x50=>(Z132_q x48.2.2 ((x50.toNat:Nat):Int)).bind fun x51=>(idxC ([48,49,50,51,52,53,54,55,56,57,97,98,99,100,101,102]:Bs) (IntKind.wrap .u8 ((BitVec.ofInt (IntKind.bits .u8) ((x25.toNat:Nat):Int) &&& BitVec.ofInt (IntKind.bits .u8) (15:Int)).toNat:Int))).bind fun x52=>(Z132_q x51.2 ((x52.toNat:Nat):Int)).bind fun x53=>some x53.2)))))) fun y22_id3_3=>Z145_q15  (r15) y22_id3_3
theorem Z145_l15_qe {a0:Bs}  (Kb15:(Strings_Builder)->Option Bs) (hend:∀(n15:Nat) (s9_16:Nat) (y17_id3_3:Strings_Builder),Z145_j7   y17_id3_3=Kb15 y17_id3_3):∀(n15:Nat) (s9_16:Nat) (y17_id3_3:Strings_Builder),(0<n15/\a0.length<s9_16+n15)->Z145_l15 a0 n15 s9_16 y17_id3_3=Option.bind (Z145_q15  (a0.drop s9_16) y17_id3_3) Kb15:=by
 intro n15;induction n15 with
 | zero=>intro s9_16 y17_id3_3 hn; exact absurd hn.1 (by omega)
 | succ n15 ih15 =>
  intro s9_16 y17_id3_3 hn;rw [Z145_l15];by_cases hlt:s9_16<a0.length
  ·obtain⟨h15,hh15⟩:=Qa hlt;rw [Q.drop_of hh15,Z145_q15];refine QT hlt ?_;refine Q.bindPO hh15 fun x25 hx_x25=>?_;refine Q.wrapPO fun Kj27 hKj27=>?_;have hj27:∀(s33_28:Bool),Z145_j27 s9_16 y17_id3_3 x25 (Z145_l15 a0 n15) s33_28=Kj27 s33_28:=by
    intro s33_28;refine Qe (hKj27 _) ?_;unfold Z145_j27;refine Q.wrapOO fun Kj21 hKj21=>?_;have hj21:∀(y22_id3_3:Strings_Builder),Z145_j21 s9_16 (Z145_l15 a0 n15) y22_id3_3=Kj21 y22_id3_3:=by
     intro y22_id3_3;refine Qe (hKj21 _) ?_;unfold Z145_j21;all_goals exact ih15 _ _ ⟨by omega,by omega⟩
    refine Q.condO ?_ ?_
    ·refine Q.bindO (Z132_eq _ _) fun x31=>?_;refine Q.bindO (Z132_eq _ _) fun x32=>?_;all_goals exact hj21 _
    refine Q.condO ?_ ?_
    ·refine Q.bindO (Z133_eq _ _) fun x35=>?_;all_goals exact hj21 _
    refine Q.condO ?_ ?_
    ·refine Q.bindO (Z133_eq _ _) fun x38=>?_;all_goals exact hj21 _
    refine Q.condO ?_ ?_
    ·refine Q.bindO (Z133_eq _ _) fun x41=>?_;all_goals exact hj21 _
    refine Q.condO ?_ ?_
    ·refine Q.bindO (Z132_eq _ _) fun x46=>?_;all_goals exact hj21 _
    refine Q.bindO (Z133_eq _ _) fun x48=>?_;refine Q.bindO rfl fun x50=>?_;refine Q.bindO (Z132_eq _ _) fun x51=>?_;refine Q.bindO rfl fun x52=>?_;refine Q.bindO (Z132_eq _ _) fun x53=>?_;all_goals exact hj21 _
   refine Q.condP ?_ ?_
   ·all_goals exact hj27 _
   all_goals exact hj27 _
  rw [dL (by omega),Z145_q15];refine QF hlt ?_;exact hend n15 s9_16 y17_id3_3
def Z145_q (a0:Bs):Option Bs:=(Z132_q Strings_Builder.zero (34:Int)).bind fun x6=>Option.bind (Z145_q15  a0 x6.2) fun y17_id3_3=>on (y17_id3_3) fun y8_id3_3=>(Z132_q y8_id3_3 (34:Int)).bind fun x10=>(Z131_q x10.2).bind fun x12=>some x12
theorem Z145_eq (a0:Bs):Z145 a0=Z145_q a0:=by
 unfold Z145 Z145_q;refine Qs ?_;refine Q.bindO (Z132_eq _ _) fun x6=>?_;refine Q.wrapOO fun Kb15 hKb15=>?_;refine Z145_l15_qe  Kb15 ?_ _ _ _ ⟨Nat.succ_pos _,by omega⟩;intro n15 s9_16 y17_id3_3;refine Qe (hKb15 _) ?_;refine Q.wrapPO fun Kj7 hKj7=>?_;have hj7:∀(y8_id3_3:Strings_Builder),Z145_j7  y8_id3_3=Kj7 y8_id3_3:=by
  intro y8_id3_3;refine Qe (hKj7 _) ?_;unfold Z145_j7;refine Q.bindO (Z132_eq _ _) fun x10=>?_;refine Q.bindO (Z131_eq _) fun x12=>?_;all_goals rfl
 all_goals exact hj7 _
def Z12_q (a0:Z5):Option Bs:=bif (!a0.FHas) then(some ([]:Bs)) else((Z121 a0.FDefault).bind fun x7=>some x7)
theorem Z12_eq (a0:Z5):Z12 a0=Z12_q a0:=by
 unfold Z12 Z12_q;refine Qs ?_;refine Q.condO ?_ ?_
 ·all_goals rfl
 refine Q.bindO rfl fun x7=>?_;all_goals rfl
def Z19_q (a0:Z5):Option Bs:=bif (!a0.FHas) then((Z159_q a0.FType).bind fun x6=>some x6) else((Z159_q a0.FType).bind fun x8=>(catC x8 ([32,61,32]:Bs)).bind fun x9=>(Z12_q a0).bind fun x10=>(catC x9 x10).bind fun x11=>some x11)
theorem Z19_eq (a0:Z5):Z19 a0=Z19_q a0:=by
 unfold Z19 Z19_q;refine Qs ?_;refine Q.condO ?_ ?_
 ·refine Q.bindO (Z159_eq _) fun x6=>?_;all_goals rfl
 refine Q.bindO (Z159_eq _) fun x8=>?_;refine Q.bindO rfl fun x9=>?_;refine Q.bindO (Z12_eq _) fun x10=>?_;refine Q.bindO rfl fun x11=>?_;all_goals rfl
def Z166_q (a0:Z7) (a1:Z7):Option Bool:=(Z165 a0 a1).bind fun x3=>some (decide (x3=(0:Int)))
theorem Z166_eq (a0:Z7) (a1:Z7):Z166 a0 a1=Z166_q a0 a1:=by
 unfold Z166 Z166_q;refine Qs ?_;refine Q.bindO rfl fun x3=>?_;all_goals rfl

def Z18_q26m (a2:(Sl Z5)) (a3:Z1) (a4:(Bs->Option (Bs×Bs))):List Z5->Z0->Option (Z0)
 | [],y28_c0=>some y28_c0
 | h26::r26,y28_c0=>on (h26) fun x35=>(a4 x35.FName).bind fun x37=>on (Z120_q a2 x35.FName) fun x39=>Option.bind (bif (!x39.2) then((Z19_q x35).bind fun x44=>(Z13_q y28_c0 a3.Fgone x37.1 x37.2 x44 ([]:Bs)).bind fun x45=>some x45) else((Z160_q x35.FType x39.1.FType).bind fun x55=>Option.bind (bif (!x55) then((Z159_q x35.FType).bind fun x57=>(Z159_q x39.1.FType).bind fun x58=>(Z13_q y28_c0 a3.Ftyp x37.1 x37.2 x57 x58).bind fun x59=>some x59) else(some y28_c0)) fun y47_c0=>guardO ((!(!(x35.FHas==x39.1.FHas))&&x35.FHas)) (Z166_q x35.FDefault x39.1.FDefault) false fun x49=>bif ((!(x35.FHas==x39.1.FHas))||(x35.FHas&&(!x49))) then((Z12_q x35).bind fun x51=>(Z12_q x39.1).bind fun x52=>(Z13_q y47_c0 a3.Fdef x37.1 x37.2 x51 x52).bind fun x53=>some x53) else(some y47_c0))) fun y33_c0=>Z18_q26m a2 a3 a4 (r26) y33_c0
theorem Z18_l26_qem {a1:(Sl Z5)}{a2:(Sl Z5)}{a3:Z1}{a4:(Bs->Option (Bs×Bs))}  (Kb26:(Z0)->Option Z0) (hend:∀(n26:Nat) (s24_27:Nat) (y28_c0:Z0),Z18_j2 a1 a2 a3 a4  y28_c0=Kb26 y28_c0):∀(n26:Nat) (s24_27:Nat) (y28_c0:Z0),(0<n26/\a1.l.length<s24_27+n26)->Z18_l26 a1 a2 a3 a4 n26 s24_27 y28_c0=Option.bind (Z18_q26m a2 a3 a4 (a1.l.drop s24_27) y28_c0) Kb26:=by
 intro n26;induction n26 with
 | zero=>intro s24_27 y28_c0 hn; exact absurd hn.1 (by omega)
 | succ n26 ih26 =>
  intro s24_27 y28_c0 hn;rw [Z18_l26];by_cases hlt:s24_27<a1.l.length
  ·obtain⟨h26,hh26⟩:=Qa hlt;rw [Q.drop_of hh26,Z18_q26m];refine QT hlt ?_;refine Q.bindPO hh26 fun x35 hx_x35=>?_;refine Q.bindO rfl fun x37=>?_;refine Q.bindPO (Z120_eq _ _) fun x39 hx_x39=>?_;refine Q.wrapOO fun Kj32 hKj32=>?_;have hj32:∀(y33_c0:Z0),Z18_j32 s24_27 (Z18_l26 a1 a2 a3 a4 n26) y33_c0=Kj32 y33_c0:=by
    intro y33_c0;refine Qe (hKj32 _) ?_;unfold Z18_j32;all_goals exact ih26 _ _ ⟨by omega,by omega⟩
   refine Q.condO ?_ ?_
   ·refine Q.bindO (Z19_eq _) fun x44=>?_;refine Q.bindO (Z13_eq _ _ _ _ _ _) fun x45=>?_;all_goals exact hj32 _
   refine Q.bindO (Z160_eq _ _) fun x55=>?_;refine Q.wrapOO fun Kj46 hKj46=>?_;have hj46:∀(y47_c0:Z0),Z18_j46 a3 s24_27 x35 x37 x39 (Z18_l26 a1 a2 a3 a4 n26) y47_c0=Kj46 y47_c0:=by
    intro y47_c0;refine Qe (hKj46 _) ?_;unfold Z18_j46;refine Q.guardOO (Z166_eq _ _) fun x49=>?_;refine Q.condO ?_ ?_
    ·refine Q.bindO (Z12_eq _) fun x51=>?_;refine Q.bindO (Z12_eq _) fun x52=>?_;refine Q.bindO (Z13_eq _ _ _ _ _ _) fun x53=>?_;all_goals exact hj32 _
    all_goals exact hj32 _
   refine Q.condO ?_ ?_
   ·refine Q.bindO (Z159_eq _) fun x57=>?_;refine Q.bindO (Z159_eq _) fun x58=>?_;refine Q.bindO (Z13_eq _ _ _ _ _ _) fun x59=>?_;all_goals exact hj46 _
   all_goals exact hj46 _
  rw [dL (by omega),Z18_q26m];refine QF hlt ?_;exact hend n26 s24_27 y28_c0
def Z18_q6m (a1:(Sl Z5)) (a3:Z1) (a4:(Bs->Option (Bs×Bs))):List Z5->Z0->Option (Z0)
 | [],y8_c0=>some y8_c0
 | h6::r6,y8_c0=>on (h6) fun x15=>on (Z120_q a1 x15.FName) fun x17=>Option.bind (bif (!x17.2) then((a4 x15.FName).bind fun x21=>(Z19_q x15).bind fun x22=>(Z13_q y8_c0 a3.Fadd x21.1 x21.2 ([]:Bs) x22).bind fun x23=>some x23) else(some y8_c0)) fun y13_c0=>Z18_q6m a1 a3 a4 (r6) y13_c0
theorem Z18_l6_qem {a1:(Sl Z5)}{a2:(Sl Z5)}{a3:Z1}{a4:(Bs->Option (Bs×Bs))}  (Kb6:(Z0)->Option Z0) (hend:∀(n6:Nat) (s100_7:Nat) (y8_c0:Z0),some y8_c0=Kb6 y8_c0):∀(n6:Nat) (s100_7:Nat) (y8_c0:Z0),(0<n6/\a2.l.length<s100_7+n6)->Z18_l6 a1 a2 a3 a4 n6 s100_7 y8_c0=Option.bind (Z18_q6m a1 a3 a4 (a2.l.drop s100_7) y8_c0) Kb6:=by
 intro n6;induction n6 with
 | zero=>intro s100_7 y8_c0 hn; exact absurd hn.1 (by omega)
 | succ n6 ih6 =>
  intro s100_7 y8_c0 hn;rw [Z18_l6];by_cases hlt:s100_7<a2.l.length
  ·obtain⟨h6,hh6⟩:=Qa hlt;rw [Q.drop_of hh6,Z18_q6m];refine QT hlt ?_;refine Q.bindPO hh6 fun x15 hx_x15=>?_;refine Q.bindPO (Z120_eq _ _) fun x17 hx_x17=>?_;refine Q.wrapOO fun Kj12 hKj12=>?_;have hj12:∀(y13_c0:Z0),Z18_j12 s100_7 (Z18_l6 a1 a2 a3 a4 n6) y13_c0=Kj12 y13_c0:=by
    intro y13_c0;refine Qe (hKj12 _) ?_;unfold Z18_j12;all_goals exact ih6 _ _ ⟨by omega,by omega⟩
   refine Q.condO ?_ ?_
   ·refine Q.bindO rfl fun x21=>?_;refine Q.bindO (Z19_eq _) fun x22=>?_;refine Q.bindO (Z13_eq _ _ _ _ _ _) fun x23=>?_;all_goals exact hj12 _
   all_goals exact hj12 _
  rw [dL (by omega),Z18_q6m];refine QF hlt ?_;exact hend n6 s100_7 y8_c0
def Z18_qm (a0:Z0) (a1:(Sl Z5)) (a2:(Sl Z5)) (a3:Z1) (a4:(Bs->Option (Bs×Bs))):Option Z0:=Option.bind (Z18_q26m a2 a3 a4 a1.l a0) fun y28_c0=>on (y28_c0) fun y3_c0=>Option.bind (Z18_q6m a1 a3 a4 a2.l y3_c0) fun y8_c0=>some y8_c0
theorem Z18_eqm (a0:Z0) (a1:(Sl Z5)) (a2:(Sl Z5)) (a3:Z1) (a4:(Bs->Option (Bs×Bs))):Z18 a0 a1 a2 a3 a4=Z18_qm a0 a1 a2 a3 a4:=by
 unfold Z18 Z18_qm;refine Qs ?_;refine Q.wrapOO fun Kb26 hKb26=>?_;refine Z18_l26_qem  Kb26 ?_ _ _ _ ⟨Nat.succ_pos _,by omega⟩;intro n26 s24_27 y28_c0;refine Qe (hKb26 _) ?_;refine Q.wrapPO fun Kj2 hKj2=>?_;have hj2:∀(y3_c0:Z0),Z18_j2 a1 a2 a3 a4 y3_c0=Kj2 y3_c0:=by
  intro y3_c0;refine Qe (hKj2 _) ?_;unfold Z18_j2;refine Q.wrapOO fun Kb6 hKb6=>?_;refine Z18_l6_qem  Kb6 ?_ _ _ _ ⟨Nat.succ_pos _,by omega⟩;intro n6 s100_7 y8_c0;refine Qe (hKb6 _) ?_;all_goals rfl
 all_goals exact hj2 _
def Z17_q (a0:Bs) (a1:Z4):(Bs×Bs):=(a1.FName,a0)
theorem Z17_eq (a0:Bs) (a1:Z4):Z17 a0 a1=some (Z17_q a0 a1):=by
 unfold Z17 Z17_q;all_goals rfl
def Z16_q24 (a2:TDef):List Z4->Z0->Option (Z0)
 | [],y26_c0=>some y26_c0
 | h24::r24,y26_c0=>on (h24) fun x33=>on (Z118_q a2 x33.FName) fun x35=>Option.bind (bif (!x35.2) then((Z159_q x33.FType).bind fun x40=>(Z13_q y26_c0 (4:Int) x33.FName ([]:Bs) x40 ([]:Bs)).bind fun x41=>some x41) else((Z160_q x33.FType x35.1.FType).bind fun x46=>Option.bind (bif (!x46) then((Z159_q x33.FType).bind fun x48=>(Z159_q x35.1.FType).bind fun x49=>(Z13_q y26_c0 (6:Int) x33.FName ([]:Bs) x48 x49).bind fun x50=>some x50) else(some y26_c0)) fun y43_c0=>(Z18_qm y43_c0 x33.FArgs x35.1.FArgs (Z1.mk (7:Int) (8:Int) (9:Int) (10:Int)) (fun y0=>some (Z17_q y0 x33))).bind fun x44=>some x44)) fun y31_c0=>Z16_q24 a2 (r24) y31_c0
theorem Z16_l24_qe {a1:TDef}{a2:TDef}  (Kb24:(Z0)->Option Z0) (hend:∀(n24:Nat) (s17_25:Nat) (y26_c0:Z0),Z16_j2 a1 a2  y26_c0=Kb24 y26_c0):∀(n24:Nat) (s17_25:Nat) (y26_c0:Z0),(0<n24/\a1.FFields.l.length<s17_25+n24)->Z16_l24 a1 a2 n24 s17_25 y26_c0=Option.bind (Z16_q24 a2 (a1.FFields.l.drop s17_25) y26_c0) Kb24:=by
 intro n24;induction n24 with
 | zero=>intro s17_25 y26_c0 hn; exact absurd hn.1 (by omega)
 | succ n24 ih24 =>
  intro s17_25 y26_c0 hn;rw [Z16_l24];by_cases hlt:s17_25<a1.FFields.l.length
  ·obtain⟨h24,hh24⟩:=Qa hlt;rw [Q.drop_of hh24,Z16_q24];refine QT hlt ?_;refine Q.bindPO hh24 fun x33 hx_x33=>?_;refine Q.bindPO (Z118_eq _ _) fun x35 hx_x35=>?_;refine Q.wrapOO fun Kj30 hKj30=>?_;have hj30:∀(y31_c0:Z0),Z16_j30 s17_25 (Z16_l24 a1 a2 n24) y31_c0=Kj30 y31_c0:=by
    intro y31_c0;refine Qe (hKj30 _) ?_;unfold Z16_j30;all_goals exact ih24 _ _ ⟨by omega,by omega⟩
   refine Q.condO ?_ ?_
   ·refine Q.bindO (Z159_eq _) fun x40=>?_;refine Q.bindO (Z13_eq _ _ _ _ _ _) fun x41=>?_;all_goals exact hj30 _
   refine Q.bindO (Z160_eq _ _) fun x46=>?_;refine Q.wrapOO fun Kj42 hKj42=>?_;have hj42:∀(y43_c0:Z0),Z16_j42 s17_25 x33 x35 (Z16_l24 a1 a2 n24) y43_c0=Kj42 y43_c0:=by
    intro y43_c0;refine Qe (hKj42 _) ?_;unfold Z16_j42;refine Q.bindO (by simp only [Z17_eq,Z18_eqm]) fun x44=>?_;all_goals exact hj30 _
   refine Q.condO ?_ ?_
   ·refine Q.bindO (Z159_eq _) fun x48=>?_;refine Q.bindO (Z159_eq _) fun x49=>?_;refine Q.bindO (Z13_eq _ _ _ _ _ _) fun x50=>?_;all_goals exact hj42 _
   all_goals exact hj42 _
  rw [dL (by omega),Z16_q24];refine QF hlt ?_;exact hend n24 s17_25 y26_c0
def Z16_q6 (a1:TDef):List Z4->Z0->Option (Z0)
 | [],y8_c0=>some y8_c0
 | h6::r6,y8_c0=>on (h6) fun x15=>on (Z118_q a1 x15.FName) fun x17=>Option.bind (bif (!x17.2) then((Z159_q x15.FType).bind fun x20=>(Z13_q y8_c0 (5:Int) x15.FName ([]:Bs) ([]:Bs) x20).bind fun x21=>some x21) else(some y8_c0)) fun y13_c0=>Z16_q6 a1 (r6) y13_c0
theorem Z16_l6_qe {a1:TDef}{a2:TDef}  (Kb6:(Z0)->Option Z0) (hend:∀(n6:Nat) (s65_7:Nat) (y8_c0:Z0),some y8_c0=Kb6 y8_c0):∀(n6:Nat) (s65_7:Nat) (y8_c0:Z0),(0<n6/\a2.FFields.l.length<s65_7+n6)->Z16_l6 a1 a2 n6 s65_7 y8_c0=Option.bind (Z16_q6 a1 (a2.FFields.l.drop s65_7) y8_c0) Kb6:=by
 intro n6;induction n6 with
 | zero=>intro s65_7 y8_c0 hn; exact absurd hn.1 (by omega)
 | succ n6 ih6 =>
  intro s65_7 y8_c0 hn;rw [Z16_l6];by_cases hlt:s65_7<a2.FFields.l.length
  ·obtain⟨h6,hh6⟩:=Qa hlt;rw [Q.drop_of hh6,Z16_q6];refine QT hlt ?_;refine Q.bindPO hh6 fun x15 hx_x15=>?_;refine Q.bindPO (Z118_eq _ _) fun x17 hx_x17=>?_;refine Q.wrapOO fun Kj12 hKj12=>?_;have hj12:∀(y13_c0:Z0),Z16_j12 s65_7 (Z16_l6 a1 a2 n6) y13_c0=Kj12 y13_c0:=by
    intro y13_c0;refine Qe (hKj12 _) ?_;unfold Z16_j12;all_goals exact ih6 _ _ ⟨by omega,by omega⟩
   refine Q.condO ?_ ?_
   ·refine Q.bindO (Z159_eq _) fun x20=>?_;refine Q.bindO (Z13_eq _ _ _ _ _ _) fun x21=>?_;all_goals exact hj12 _
   all_goals exact hj12 _
  rw [dL (by omega),Z16_q6];refine QF hlt ?_;exact hend n6 s65_7 y8_c0
def Z16_q (a0:Z0) (a1:TDef) (a2:TDef):Option Z0:=Option.bind (Z16_q24 a2 a1.FFields.l a0) fun y26_c0=>on (y26_c0) fun y3_c0=>Option.bind (Z16_q6 a1 a2.FFields.l y3_c0) fun y8_c0=>some y8_c0
theorem Z16_eq (a0:Z0) (a1:TDef) (a2:TDef):Z16 a0 a1 a2=Z16_q a0 a1 a2:=by
 unfold Z16 Z16_q;refine Qs ?_;refine Q.wrapOO fun Kb24 hKb24=>?_;refine Z16_l24_qe  Kb24 ?_ _ _ _ ⟨Nat.succ_pos _,by omega⟩;intro n24 s17_25 y26_c0;refine Qe (hKb24 _) ?_;refine Q.wrapPO fun Kj2 hKj2=>?_;have hj2:∀(y3_c0:Z0),Z16_j2 a1 a2 y3_c0=Kj2 y3_c0:=by
  intro y3_c0;refine Qe (hKj2 _) ?_;unfold Z16_j2;refine Q.wrapOO fun Kb6 hKb6=>?_;refine Z16_l6_qe  Kb6 ?_ _ _ _ ⟨Nat.succ_pos _,by omega⟩;intro n6 s65_7 y8_c0;refine Qe (hKb6 _) ?_;all_goals rfl
 all_goals exact hj2 _
end Go.Proofs

namespace Go.Proofs
open Go Go.Ab
def Z23_q8 :List Z6->(Sl Bs)->Option ((Sl Bs))
 | [],s3_9=>some s3_9
 | h8::r8,s3_9=>on (h8) fun x16=>(appC 16 s3_9 (⟨false,[x16.FName]⟩:Sl Bs)).bind fun x17=>Z23_q8  (r8) x17
theorem Z23_l8_qe {a0:(Sl Z6)}  (Kb8:((Sl Bs))->Option (Sl Bs)) (hend:∀(n8:Nat) (s3_9:(Sl Bs)) (s8_10:Nat),Z23_j3   s3_9=Kb8 s3_9):∀(n8:Nat) (s3_9:(Sl Bs)) (s8_10:Nat),(0<n8/\a0.l.length<s8_10+n8)->Z23_l8 a0 n8 s3_9 s8_10=Option.bind (Z23_q8  (a0.l.drop s8_10) s3_9) Kb8:=by
 intro n8;induction n8 with
 | zero=>intro s3_9 s8_10 hn; exact absurd hn.1 (by omega)
 | succ n8 ih8 =>
  intro s3_9 s8_10 hn;rw [Z23_l8];by_cases hlt:s8_10<a0.l.length
  ·obtain⟨h8,hh8⟩:=Qa hlt;rw [Q.drop_of hh8,Z23_q8];refine QT hlt ?_;refine Q.bindPO hh8 fun x16 hx_x16=>?_;refine Q.bindO rfl fun x17=>?_;all_goals exact ih8 _ _ ⟨by omega,by omega⟩
  rw [dL (by omega),Z23_q8];refine QF hlt ?_;exact hend n8 s3_9 s8_10
def Z23_q (a0:(Sl Z6)):Option (Sl Bs):=Option.bind (Z23_q8  a0.l (Sl.nil:Sl Bs)) fun s3_9=>on (s3_9) fun s3_4=>some s3_4
theorem Z23_eq (a0:(Sl Z6)):Z23 a0=Z23_q a0:=by
 unfold Z23 Z23_q;refine Qs ?_;refine Q.wrapOO fun Kb8 hKb8=>?_;refine Z23_l8_qe  Kb8 ?_ _ _ _ ⟨Nat.succ_pos _,by omega⟩;intro n8 s3_9 s8_10;refine Qe (hKb8 _) ?_;refine Q.wrapPO fun Kj3 hKj3=>?_;have hj3:∀(s3_4:(Sl Bs)),Z23_j3  s3_4=Kj3 s3_4:=by
  intro s3_4;refine Qe (hKj3 _) ?_;unfold Z23_j3;all_goals rfl
 all_goals exact hj3 _
def Z123_q (a0:(Sl Bs)):Option (Sl Bs):=bif a0.nl then(some (Sl.nil:Sl Bs)) else((appC 16 (⟨false,[]⟩:Sl Bs) a0).bind fun x7=>some x7)
theorem Z123_eq (a0:(Sl Bs)):Z123 a0=Z123_q a0:=by
 unfold Z123 Z123_q;refine Qs ?_;refine Q.condO ?_ ?_
 ·all_goals rfl
 refine Q.bindO rfl fun x7=>?_;all_goals rfl
def Z128_q6 (a1:Bs):List Bs->Nat->Unit ⊕ Int
 | [],s8_7=>Sum.inl ()
 | h6::r6,s8_7=>on (h6) fun x14=>bif ((a1==x14)) then(Sum.inr ((s8_7:Nat):Int)) else(Z128_q6 a1 (r6) (s8_7+1) )
theorem Z128_l6_qe {a0:(Sl Bs)}{a1:Bs}  (Kb6:(Unit ⊕ Int)->Option Int) (hend:∀(n6:Nat) (s8_7:Nat),Z128_j2   =Kb6 (Sum.inl ())) (hret:∀e:Int,some e=Kb6 (Sum.inr e)):∀(n6:Nat) (s8_7:Nat),(0<n6/\a0.l.length<s8_7+n6)->Z128_l6 a0 a1 n6 s8_7=Kb6 (Z128_q6 a1 (a0.l.drop s8_7) s8_7 ):=by
 intro n6;induction n6 with
 | zero=>intro s8_7 hn; exact absurd hn.1 (by omega)
 | succ n6 ih6 =>
  intro s8_7 hn;rw [Z128_l6];by_cases hlt:s8_7<a0.l.length
  ·obtain⟨h6,hh6⟩:=Qa hlt;rw [Q.drop_of hh6,Z128_q6];refine QT hlt ?_;refine Q.bindP hh6 fun x14 hx_x14=>?_;refine Q.condP ?_ ?_
   ·all_goals exact hret _
   all_goals exact ih6 _ ⟨by omega,by omega⟩
  rw [dL (by omega),Z128_q6];refine QF hlt ?_;exact hend n6 s8_7
def Z128_q (a0:(Sl Bs)) (a1:Bs):Int:=on (Z128_q6 a1 a0.l 0 ) fun o6=>match o6 with|Sum.inl _=>(on (()) fun _=>(-1:Int))|Sum.inr e6=>(e6)
theorem Z128_eq (a0:(Sl Bs)) (a1:Bs):Z128 a0 a1=some (Z128_q a0 a1):=by
 unfold Z128 Z128_q;refine Q.wrapPP fun Kb6 hKb6=>?_;refine Z128_l6_qe  Kb6 ?_ ?_ _ _ ⟨Nat.succ_pos _,by omega⟩
 ·intro n6 s8_7;refine Qe (hKb6 _) ?_;try dsimp only
  refine Q.wrapPP fun Kj2 hKj2=>?_;have hj2:Z128_j2  =Kj2 ():=by
   refine Qe (hKj2 _) ?_;unfold Z128_j2;all_goals rfl
  all_goals exact hj2
 intro e6;refine Qe (hKb6 _) ?_;try dsimp only
 all_goals rfl
def Z124_q (a0:(Sl Bs)) (a1:Bs):Bool:=on (Z128_q a0 a1) fun x3=>(decide ((0:Int)<=x3))
theorem Z124_eq (a0:(Sl Bs)) (a1:Bs):Z124 a0 a1=some (Z124_q a0 a1):=by
 unfold Z124 Z124_q;refine Q.bindP (Z128_eq _ _) fun x3 hx_x3=>?_;all_goals rfl
def Z22_q (a0:Bs) (a1:(Sl Bs)):Bool:=on (Z124_q a1 a0) fun x3=>x3
theorem Z22_eq (a0:Bs) (a1:(Sl Bs)):Z22 a0 a1=some (Z22_q a0 a1):=by
 unfold Z22 Z22_q;refine Q.bindP (Z124_eq _ _) fun x3 hx_x3=>?_;all_goals rfl
def Z21_q (a0:(Sl Bs)) (a1:(Sl Bs)):Option (Sl Bs):=(Z123_q a0).bind fun x3=>(some (delL (fun y0=>Z22 y0 a1) x3)).bind fun x4=>some x4
theorem Z21_eq (a0:(Sl Bs)) (a1:(Sl Bs)):Z21 a0 a1=Z21_q a0 a1:=by
 unfold Z21 Z21_q;refine Qs ?_;refine Q.bindO (Z123_eq _) fun x3=>?_;refine Q.bindO rfl fun x4=>?_;all_goals rfl
def Z14_q57 :List Bs->Z0->Option (Z0)
 | [],y59_c0=>some y59_c0
 | h57::r57,y59_c0=>on (h57) fun x65=>(Z13_q y59_c0 (11:Int) x65 ([]:Bs) ([]:Bs) ([]:Bs)).bind fun x66=>Z14_q57  (r57) x66
theorem Z14_l57_qe {a1:TDef}{a2:TDef}{x5:(Sl Bs)}{x6:(Sl Bs)}{x55:(Sl Bs)}  (Kb57:(Z0)->Option Z0) (hend:∀(n57:Nat) (s30_58:Nat) (y59_c0:Z0),Z14_j7 a1 a2 x5 x6  y59_c0=Kb57 y59_c0):∀(n57:Nat) (s30_58:Nat) (y59_c0:Z0),(0<n57/\x55.l.length<s30_58+n57)->Z14_l57 a1 a2 x5 x6 x55 n57 s30_58 y59_c0=Option.bind (Z14_q57  (x55.l.drop s30_58) y59_c0) Kb57:=by
 intro n57;induction n57 with
 | zero=>intro s30_58 y59_c0 hn; exact absurd hn.1 (by omega)
 | succ n57 ih57 =>
  intro s30_58 y59_c0 hn;rw [Z14_l57];by_cases hlt:s30_58<x55.l.length
  ·obtain⟨h57,hh57⟩:=Qa hlt;rw [Q.drop_of hh57,Z14_q57];refine QT hlt ?_;refine Q.bindPO hh57 fun x65 hx_x65=>?_;refine Q.bindO (Z13_eq _ _ _ _ _ _) fun x66=>?_;all_goals exact ih57 _ _ ⟨by omega,by omega⟩
  rw [dL (by omega),Z14_q57];refine QF hlt ?_;exact hend n57 s30_58 y59_c0
def Z14_q44 :List Bs->Z0->Option (Z0)
 | [],y46_c0=>some y46_c0
 | h44::r44,y46_c0=>on (h44) fun x52=>(Z13_q y46_c0 (12:Int) x52 ([]:Bs) ([]:Bs) ([]:Bs)).bind fun x53=>Z14_q44  (r44) x53
theorem Z14_l44_qe {a1:TDef}{a2:TDef}{x42:(Sl Bs)}  (Kb44:(Z0)->Option Z0) (hend:∀(n44:Nat) (s42_45:Nat) (y46_c0:Z0),Z14_j9 a1 a2  y46_c0=Kb44 y46_c0):∀(n44:Nat) (s42_45:Nat) (y46_c0:Z0),(0<n44/\x42.l.length<s42_45+n44)->Z14_l44 a1 a2 x42 n44 s42_45 y46_c0=Option.bind (Z14_q44  (x42.l.drop s42_45) y46_c0) Kb44:=by
 intro n44;induction n44 with
 | zero=>intro s42_45 y46_c0 hn; exact absurd hn.1 (by omega)
 | succ n44 ih44 =>
  intro s42_45 y46_c0 hn;rw [Z14_l44];by_cases hlt:s42_45<x42.l.length
  ·obtain⟨h44,hh44⟩:=Qa hlt;rw [Q.drop_of hh44,Z14_q44];refine QT hlt ?_;refine Q.bindPO hh44 fun x52 hx_x52=>?_;refine Q.bindO (Z13_eq _ _ _ _ _ _) fun x53=>?_;all_goals exact ih44 _ _ ⟨by omega,by omega⟩
  rw [dL (by omega),Z14_q44];refine QF hlt ?_;exact hend n44 s42_45 y46_c0
def Z14_q31 :List Bs->Z0->Option (Z0)
 | [],y33_c0=>some y33_c0
 | h31::r31,y33_c0=>on (h31) fun x39=>(Z13_q y33_c0 (17:Int) ([]:Bs) ([]:Bs) x39 ([]:Bs)).bind fun x40=>Z14_q31  (r31) x40
theorem Z14_l31_qe {a1:TDef}{a2:TDef}{x29:(Sl Bs)}  (Kb31:(Z0)->Option Z0) (hend:∀(n31:Nat) (s63_32:Nat) (y33_c0:Z0),Z14_j13 a1 a2  y33_c0=Kb31 y33_c0):∀(n31:Nat) (s63_32:Nat) (y33_c0:Z0),(0<n31/\x29.l.length<s63_32+n31)->Z14_l31 a1 a2 x29 n31 s63_32 y33_c0=Option.bind (Z14_q31  (x29.l.drop s63_32) y33_c0) Kb31:=by
 intro n31;induction n31 with
 | zero=>intro s63_32 y33_c0 hn; exact absurd hn.1 (by omega)
 | succ n31 ih31 =>
  intro s63_32 y33_c0 hn;rw [Z14_l31];by_cases hlt:s63_32<x29.l.length
  ·obtain⟨h31,hh31⟩:=Qa hlt;rw [Q.drop_of hh31,Z14_q31];refine QT hlt ?_;refine Q.bindPO hh31 fun x39 hx_x39=>?_;refine Q.bindO (Z13_eq _ _ _ _ _ _) fun x40=>?_;all_goals exact ih31 _ _ ⟨by omega,by omega⟩
  rw [dL (by omega),Z14_q31];refine QF hlt ?_;exact hend n31 s63_32 y33_c0
def Z14_q18 :List Bs->Z0->Option (Z0)
 | [],y20_c0=>some y20_c0
 | h18::r18,y20_c0=>on (h18) fun x26=>(Z13_q y20_c0 (18:Int) ([]:Bs) ([]:Bs) ([]:Bs) x26).bind fun x27=>Z14_q18  (r18) x27
theorem Z14_l18_qe {x16:(Sl Bs)}  (Kb18:(Z0)->Option Z0) (hend:∀(n18:Nat) (s77_19:Nat) (y20_c0:Z0),some y20_c0=Kb18 y20_c0):∀(n18:Nat) (s77_19:Nat) (y20_c0:Z0),(0<n18/\x16.l.length<s77_19+n18)->Z14_l18 x16 n18 s77_19 y20_c0=Option.bind (Z14_q18  (x16.l.drop s77_19) y20_c0) Kb18:=by
 intro n18;induction n18 with
 | zero=>intro s77_19 y20_c0 hn; exact absurd hn.1 (by omega)
 | succ n18 ih18 =>
  intro s77_19 y20_c0 hn;rw [Z14_l18];by_cases hlt:s77_19<x16.l.length
  ·obtain⟨h18,hh18⟩:=Qa hlt;rw [Q.drop_of hh18,Z14_q18];refine QT hlt ?_;refine Q.bindPO hh18 fun x26 hx_x26=>?_;refine Q.bindO (Z13_eq _ _ _ _ _ _) fun x27=>?_;all_goals exact ih18 _ _ ⟨by omega,by omega⟩
  rw [dL (by omega),Z14_q18];refine QF hlt ?_;exact hend n18 s77_19 y20_c0
def Z14_q (a0:Z0) (a1:TDef) (a2:TDef):Option Z0:=(Z16_q a0 a1 a2).bind fun x3=>(Z23_q a1.FMembers).bind fun x5=>(Z23_q a2.FMembers).bind fun x6=>(Z21_q x5 x6).bind fun x55=>Option.bind (Z14_q57  x55.l x3) fun y59_c0=>on (y59_c0) fun y8_c0=>(Z21_q x6 x5).bind fun x42=>Option.bind (Z14_q44  x42.l y8_c0) fun y46_c0=>on (y46_c0) fun y10_c0=>(Z18_qm y10_c0 a1.FInputs a2.FInputs (Z1.mk (13:Int) (14:Int) (15:Int) (16:Int)) Z15).bind fun x12=>(Z21_q a1.FImplements a2.FImplements).bind fun x29=>Option.bind (Z14_q31  x29.l x12) fun y33_c0=>on (y33_c0) fun y14_c0=>(Z21_q a2.FImplements a1.FImplements).bind fun x16=>Option.bind (Z14_q18  x16.l y14_c0) fun y20_c0=>some y20_c0
theorem Z14_eq (a0:Z0) (a1:TDef) (a2:TDef):Z14 a0 a1 a2=Z14_q a0 a1 a2:=by
 unfold Z14 Z14_q;refine Qs ?_;refine Q.bindO (Z16_eq _ _ _) fun x3=>?_;refine Q.bindO (Z23_eq _) fun x5=>?_;refine Q.bindO (Z23_eq _) fun x6=>?_;refine Q.bindO (Z21_eq _ _) fun x55=>?_;refine Q.wrapOO fun Kb57 hKb57=>?_;refine Z14_l57_qe  Kb57 ?_ _ _ _ ⟨Nat.succ_pos _,by omega⟩;intro n57 s30_58 y59_c0;refine Qe (hKb57 _) ?_;refine Q.wrapPO fun Kj7 hKj7=>?_;have hj7:∀(y8_c0:Z0),Z14_j7 a1 a2 x5 x6 y8_c0=Kj7 y8_c0:=by
  intro y8_c0;refine Qe (hKj7 _) ?_;unfold Z14_j7;refine Q.bindO (Z21_eq _ _) fun x42=>?_;refine Q.wrapOO fun Kb44 hKb44=>?_;refine Z14_l44_qe  Kb44 ?_ _ _ _ ⟨Nat.succ_pos _,by omega⟩;intro n44 s42_45 y46_c0;refine Qe (hKb44 _) ?_;refine Q.wrapPO fun Kj9 hKj9=>?_;have hj9:∀(y10_c0:Z0),Z14_j9 a1 a2 y10_c0=Kj9 y10_c0:=by
   intro y10_c0;refine Qe (hKj9 _) ?_;unfold Z14_j9;refine Q.bindO (by simp only [Z18_eqm]) fun x12=>?_;refine Q.bindO (Z21_eq _ _) fun x29=>?_;refine Q.wrapOO fun Kb31 hKb31=>?_;refine Z14_l31_qe  Kb31 ?_ _ _ _ ⟨Nat.succ_pos _,by omega⟩;intro n31 s63_32 y33_c0;refine Qe (hKb31 _) ?_;refine Q.wrapPO fun Kj13 hKj13=>?_;have hj13:∀(y14_c0:Z0),Z14_j13 a1 a2 y14_c0=Kj13 y14_c0:=by
    intro y14_c0;refine Qe (hKj13 _) ?_;unfold Z14_j13;refine Q.bindO (Z21_eq _ _) fun x16=>?_;refine Q.wrapOO fun Kb18 hKb18=>?_;refine Z14_l18_qe  Kb18 ?_ _ _ _ ⟨Nat.succ_pos _,by omega⟩;intro n18 s77_19 y20_c0;refine Qe (hKb18 _) ?_;all_goals rfl
   all_goals exact hj13 _
  all_goals exact hj9 _
 all_goals exact hj7 _
def Z10_q56 (a1:TDoc):List TDef->Z0->Option (Z0)
 | [],y58_id19_3=>some y58_id19_3
 | h56::r56,y58_id19_3=>on (h56) fun x65=>on (Z119_q a1 x65.FName) fun x68=>Option.bind (bif (!x68.2) then(on (Z20_q x65.FKind) fun x71=>(Z13_q (Z0.mk x65.FName y58_id19_3.Fout) (1:Int) ([]:Bs) ([]:Bs) x71 ([]:Bs)).bind fun x72=>some x72) else(some (Z0.mk x65.FName y58_id19_3.Fout))) fun y63_id19_3=>Z10_q56 a1 (r56) y63_id19_3
theorem Z10_l56_qe {a0:TDoc}{a1:TDoc}  (Kb56:(Z0)->Option (Sl Z2)) (hend:∀(n56:Nat) (s23_57:Nat) (y58_id19_3:Z0),Z10_j5 a0 a1  y58_id19_3=Kb56 y58_id19_3):∀(n56:Nat) (s23_57:Nat) (y58_id19_3:Z0),(0<n56/\a0.FDefs.l.length<s23_57+n56)->Z10_l56 a0 a1 n56 s23_57 y58_id19_3=Option.bind (Z10_q56 a1 (a0.FDefs.l.drop s23_57) y58_id19_3) Kb56:=by
 intro n56;induction n56 with
 | zero=>intro s23_57 y58_id19_3 hn; exact absurd hn.1 (by omega)
 | succ n56 ih56 =>
  intro s23_57 y58_id19_3 hn;rw [Z10_l56];by_cases hlt:s23_57<a0.FDefs.l.length
  ·obtain⟨h56,hh56⟩:=Qa hlt;rw [Q.drop_of hh56,Z10_q56];refine QT hlt ?_;refine Q.bindPO hh56 fun x65 hx_x65=>?_;refine Q.bindPO (Z119_eq _ _) fun x68 hx_x68=>?_;refine Q.wrapOO fun Kj62 hKj62=>?_;have hj62:∀(y63_id19_3:Z0),Z10_j62 s23_57 (Z10_l56 a0 a1 n56) y63_id19_3=Kj62 y63_id19_3:=by
    intro y63_id19_3;refine Qe (hKj62 _) ?_;unfold Z10_j62;all_goals exact ih56 _ _ ⟨by omega,by omega⟩
   refine Q.condO ?_ ?_
   ·refine Q.bindPO (Z20_eq _) fun x71 hx_x71=>?_;refine Q.bindO (Z13_eq _ _ _ _ _ _) fun x72=>?_;all_goals exact hj62 _
   all_goals exact hj62 _
  rw [dL (by omega),Z10_q56];refine QF hlt ?_;exact hend n56 s23_57 y58_id19_3
def Z10_q33 (a1:TDoc):List TDef->Z0->Option (Z0)
 | [],y35_id19_3=>some y35_id19_3
 | h33::r33,y35_id19_3=>on (h33) fun x42=>on (Z119_q a1 x42.FName) fun x45=>Option.bind (bif (!x45.2) then(some (Z0.mk x42.FName y35_id19_3.Fout)) else(bif (!decide (x42.FKind=x45.1.FKind)) then(on (Z20_q x42.FKind) fun x50=>on (Z20_q x45.1.FKind) fun x51=>(Z13_q (Z0.mk x42.FName y35_id19_3.Fout) (3:Int) ([]:Bs) ([]:Bs) x50 x51).bind fun x52=>some x52) else((Z14_q (Z0.mk x42.FName y35_id19_3.Fout) x42 x45.1).bind fun x53=>some x53))) fun y40_id19_3=>Z10_q33 a1 (r33) y40_id19_3
theorem Z10_l33_qe {a0:TDoc}{a1:TDoc}  (Kb33:(Z0)->Option (Sl Z2)) (hend:∀(n33:Nat) (s50_34:Nat) (y35_id19_3:Z0),Z10_j7 a0 a1  y35_id19_3=Kb33 y35_id19_3):∀(n33:Nat) (s50_34:Nat) (y35_id19_3:Z0),(0<n33/\a0.FDefs.l.length<s50_34+n33)->Z10_l33 a0 a1 n33 s50_34 y35_id19_3=Option.bind (Z10_q33 a1 (a0.FDefs.l.drop s50_34) y35_id19_3) Kb33:=by
 intro n33;induction n33 with
 | zero=>intro s50_34 y35_id19_3 hn; exact absurd hn.1 (by omega)
 | succ n33 ih33 =>
  intro s50_34 y35_id19_3 hn;rw [Z10_l33];by_cases hlt:s50_34<a0.FDefs.l.length
  ·obtain⟨h33,hh33⟩:=Qa hlt;rw [Q.drop_of hh33,Z10_q33];refine QT hlt ?_;refine Q.bindPO hh33 fun x42 hx_x42=>?_;refine Q.bindPO (Z119_eq _ _) fun x45 hx_x45=>?_;refine Q.wrapOO fun Kj39 hKj39=>?_;have hj39:∀(y40_id19_3:Z0),Z10_j39 s50_34 (Z10_l33 a0 a1 n33) y40_id19_3=Kj39 y40_id19_3:=by
    intro y40_id19_3;refine Qe (hKj39 _) ?_;unfold Z10_j39;all_goals exact ih33 _ _ ⟨by omega,by omega⟩
   refine Q.condO ?_ ?_
   ·all_goals exact hj39 _
   refine Q.condO ?_ ?_
   ·refine Q.bindPO (Z20_eq _) fun x50 hx_x50=>?_;refine Q.bindPO (Z20_eq _) fun x51 hx_x51=>?_;refine Q.bindO (Z13_eq _ _ _ _ _ _) fun x52=>?_;all_goals exact hj39 _
   refine Q.bindO (Z14_eq _ _ _) fun x53=>?_;all_goals exact hj39 _
  rw [dL (by omega),Z10_q33];refine QF hlt ?_;exact hend n33 s50_34 y35_id19_3
def Z10_q14 (a0:TDoc):List TDef->Z0->Option (Z0)
 | [],y16_id19_3=>some y16_id19_3
 | h14::r14,y16_id19_3=>on (h14) fun x23=>on (Z119_q a0 x23.FName) fun x26=>Option.bind (bif (!x26.2) then(on (Z20_q x23.FKind) fun x29=>(Z13_q (Z0.mk x23.FName y16_id19_3.Fout) (2:Int) ([]:Bs) ([]:Bs) ([]:Bs) x29).bind fun x30=>some x30) else(some (Z0.mk x23.FName y16_id19_3.Fout))) fun y21_id19_3=>Z10_q14 a0 (r14) y21_id19_3
theorem Z10_l14_qe {a0:TDoc}{a1:TDoc}  (Kb14:(Z0)->Option (Sl Z2)) (hend:∀(n14:Nat) (s91_15:Nat) (y16_id19_3:Z0),Z10_j9   y16_id19_3=Kb14 y16_id19_3):∀(n14:Nat) (s91_15:Nat) (y16_id19_3:Z0),(0<n14/\a1.FDefs.l.length<s91_15+n14)->Z10_l14 a0 a1 n14 s91_15 y16_id19_3=Option.bind (Z10_q14 a0 (a1.FDefs.l.drop s91_15) y16_id19_3) Kb14:=by
 intro n14;induction n14 with
 | zero=>intro s91_15 y16_id19_3 hn; exact absurd hn.1 (by omega)
 | succ n14 ih14 =>
  intro s91_15 y16_id19_3 hn;rw [Z10_l14];by_cases hlt:s91_15<a1.FDefs.l.length
  ·obtain⟨h14,hh14⟩:=Qa hlt;rw [Q.drop_of hh14,Z10_q14];refine QT hlt ?_;refine Q.bindPO hh14 fun x23 hx_x23=>?_;refine Q.bindPO (Z119_eq _ _) fun x26 hx_x26=>?_;refine Q.wrapOO fun Kj20 hKj20=>?_;have hj20:∀(y21_id19_3:Z0),Z10_j20 s91_15 (Z10_l14 a0 a1 n14) y21_id19_3=Kj20 y21_id19_3:=by
    intro y21_id19_3;refine Qe (hKj20 _) ?_;unfold Z10_j20;all_goals exact ih14 _ _ ⟨by omega,by omega⟩
   refine Q.condO ?_ ?_
   ·refine Q.bindPO (Z20_eq _) fun x29 hx_x29=>?_;refine Q.bindO (Z13_eq _ _ _ _ _ _) fun x30=>?_;all_goals exact hj20 _
   all_goals exact hj20 _
  rw [dL (by omega),Z10_q14];refine QF hlt ?_;exact hend n14 s91_15 y16_id19_3
def Z10_q (a0:TDoc) (a1:TDoc):Option (Sl Z2):=Option.bind (Z10_q56 a1 a0.FDefs.l (Z0.mk ([]:Bs) (Sl.nil:Sl Z2))) fun y58_id19_3=>on (y58_id19_3) fun y6_id19_3=>Option.bind (Z10_q33 a1 a0.FDefs.l y6_id19_3) fun y35_id19_3=>on (y35_id19_3) fun y8_id19_3=>Option.bind (Z10_q14 a0 a1.FDefs.l y8_id19_3) fun y16_id19_3=>on (y16_id19_3) fun y10_id19_3=>some y10_id19_3.Fout
theorem Z10_eq (a0:TDoc) (a1:TDoc):Z10 a0 a1=Z10_q a0 a1:=by
 unfold Z10 Z10_q;refine Qs ?_;refine Q.wrapOO fun Kb56 hKb56=>?_;refine Z10_l56_qe  Kb56 ?_ _ _ _ ⟨Nat.succ_pos _,by omega⟩;intro n56 s23_57 y58_id19_3;refine Qe (hKb56 _) ?_;refine Q.wrapPO fun Kj5 hKj5=>?_;have hj5:∀(y6_id19_3:Z0),Z10_j5 a0 a1 y6_id19_3=Kj5 y6_id19_3:=by
  intro y6_id19_3;refine Qe (hKj5 _) ?_;unfold Z10_j5;refine Q.wrapOO fun Kb33 hKb33=>?_;refine Z10_l33_qe  Kb33 ?_ _ _ _ ⟨Nat.succ_pos _,by omega⟩;intro n33 s50_34 y35_id19_3;refine Qe (hKb33 _) ?_;refine Q.wrapPO fun Kj7 hKj7=>?_;have hj7:∀(y8_id19_3:Z0),Z10_j7 a0 a1 y8_id19_3=Kj7 y8_id19_3:=by
   intro y8_id19_3;refine Qe (hKj7 _) ?_;unfold Z10_j7;refine Q.wrapOO fun Kb14 hKb14=>?_;refine Z10_l14_qe  Kb14 ?_ _ _ _ ⟨Nat.succ_pos _,by omega⟩;intro n14 s91_15 y16_id19_3;refine Qe (hKb14 _) ?_;refine Q.wrapPO fun Kj9 hKj9=>?_;have hj9:∀(y10_id19_3:Z0),Z10_j9  y10_id19_3=Kj9 y10_id19_3:=by
    intro y10_id19_3;refine Qe (hKj9 _) ?_;unfold Z10_j9;all_goals rfl
   all_goals exact hj9 _
  all_goals exact hj7 _
 all_goals exact hj5 _
def Z108_q11 (a1:(Sl Z2)):List Z2->Nat->Option (Unit ⊕ Bool)
 | [],s5_12=>some (Sum.inl ())
 | h11::r11,s5_12=>on (h11) fun x19=>(a1.l[s5_12]?).bind fun x20=>bif (!(decide (x19.FKind=x20.FKind)&&((x19.FType==x20.FType)&&((x19.FField==x20.FField)&&((x19.FArg==x20.FArg)&&((x19.FFrom==x20.FFrom)&&((x19.FTo==x20.FTo)&&true))))))) then(some (Sum.inr false)) else(Z108_q11 a1 (r11) (s5_12+1) )
theorem Z108_l11_qe {a0:(Sl Z2)}{a1:(Sl Z2)}  (Kb11:(Unit ⊕ Bool)->Option Bool) (hend:∀(n11:Nat) (s5_12:Nat),Z108_j8   =Kb11 (Sum.inl ())) (hret:∀e:Bool,some e=Kb11 (Sum.inr e)):∀(n11:Nat) (s5_12:Nat),(0<n11/\a0.l.length<s5_12+n11)->Z108_l11 a0 a1 n11 s5_12=Option.bind (Z108_q11 a1 (a0.l.drop s5_12) s5_12 ) Kb11:=by
 intro n11;induction n11 with
 | zero=>intro s5_12 hn; exact absurd hn.1 (by omega)
 | succ n11 ih11 =>
  intro s5_12 hn;rw [Z108_l11];by_cases hlt:s5_12<a0.l.length
  ·obtain⟨h11,hh11⟩:=Qa hlt;rw [Q.drop_of hh11,Z108_q11];refine QT hlt ?_;refine Q.bindPO hh11 fun x19 hx_x19=>?_;refine Q.bindO rfl fun x20=>?_;refine Q.condO ?_ ?_
   ·all_goals exact hret _
   all_goals exact ih11 _ ⟨by omega,by omega⟩
  rw [dL (by omega),Z108_q11];refine QF hlt ?_;exact hend n11 s5_12
def Z108_q (a0:(Sl Z2)) (a1:(Sl Z2)):Option Bool:=bif (!decide (((a0.l.length:Nat):Int)=((a1.l.length:Nat):Int))) then(some false) else(Option.bind (Z108_q11 a1 a0.l 0 ) fun o11=>match o11 with|Sum.inl _=>(on (()) fun _=>some true)|Sum.inr e11=>(some e11))
theorem Z108_eq (a0:(Sl Z2)) (a1:(Sl Z2)):Z108 a0 a1=Z108_q a0 a1:=by
 unfold Z108 Z108_q;refine Qs ?_;refine Q.condO ?_ ?_
 ·all_goals rfl
 refine Q.wrapOO fun Kb11 hKb11=>?_;refine Z108_l11_qe  Kb11 ?_ ?_ _ _ ⟨Nat.succ_pos _,by omega⟩
 ·intro n11 s5_12;refine Qe (hKb11 _) ?_;try dsimp only
  refine Q.wrapPO fun Kj8 hKj8=>?_;have hj8:Z108_j8  =Kj8 ():=by
   refine Qe (hKj8 _) ?_;unfold Z108_j8;all_goals rfl
  all_goals exact hj8
 intro e11;refine Qe (hKb11 _) ?_;try dsimp only
 all_goals rfl
def Z116_q (a0:Int):Bs:=bif (decide (a0=(1:Int))) then(([116,121,112,101]:Bs)) else(bif (decide (a0=(2:Int))) then(([105,110,116,101,114,102,97,99,101]:Bs)) else(bif (decide (a0=(3:Int))) then(([117,110,105,111,110]:Bs)) else(bif (decide (a0=(4:Int))) then(([101,110,117,109]:Bs)) else(([105,110,112,117,116]:Bs)))))
theorem Z116_eq (a0:Int):Z116 a0=some (Z116_q a0):=by
 unfold Z116 Z116_q;refine Q.condP ?_ ?_
 ·all_goals rfl
 refine Q.condP ?_ ?_
 ·all_goals rfl
 refine Q.condP ?_ ?_
 ·all_goals rfl
 refine Q.condP ?_ ?_
 ·all_goals rfl
 all_goals rfl
def Z59_qn:Nat->TRef->Option Bs
 | 0,_=>none
 | n+1,a0=>on (Z57_q a0) fun x4=>bif x4 then((Z62_q a0).bind fun x7=>((Z59_qn n) x7).bind fun x8=>(catC x8 ([33]:Bs)).bind fun x9=>some x9) else(bif (decide ((0:Int)<((a0.FWraps.l.length:Nat):Int))) then((Z62_q a0).bind fun x15=>((Z59_qn n) x15).bind fun x16=>(catC ([91]:Bs) x16).bind fun x17=>(catC x17 ([93]:Bs)).bind fun x18=>some x18) else(some a0.FName))
theorem Z59_qall:∀n:Nat,Z59_n n=Z59_qn n:=by
 intro n;induction n with
 | zero=>exact(by funext a0; first|rfl|(rw [Z59_n,Z59_qn]))
 | succ n ih =>
  funext a0
  refine Qs ?_;rw [Z59_n,Z59_qn];try rw [ih]
  refine Q.bindPO (Z57_eq _) fun x4 hx_x4=>?_;refine Q.condO ?_ ?_
  ·refine Q.bindO (Z62_eq _) fun x7=>?_;refine Q.bindO rfl fun x8=>?_;refine Q.bindO rfl fun x9=>?_;all_goals rfl
  refine Q.condO ?_ ?_
  ·refine Q.bindO (Z62_eq _) fun x15=>?_;refine Q.bindO rfl fun x16=>?_;refine Q.bindO rfl fun x17=>?_;refine Q.bindO rfl fun x18=>?_;all_goals rfl
  all_goals rfl
def Z59_q (a0:TRef):Option Bs:=Z59_qn F0 a0
theorem Z59_eq (a0:TRef):Z59 a0=Z59_q a0:=by
 unfold Z59 Z59_q; rw [(Z59_qall F0)]
def Z109_q (a0:Z2) (a1:Int) (a2:Bs) (a3:Bs) (a4:Bs):Z2:=on (bif ((decide ((7:Int)<=a1))&&(decide (a1<=(10:Int)))) then((Z2.mk a1 a0.FType a0.FField a2 a3 a4)) else((Z2.mk a1 a0.FType a2 a0.FArg a3 a4))) fun y6_l0=>y6_l0
theorem Z109_eq (a0:Z2) (a1:Int) (a2:Bs) (a3:Bs) (a4:Bs):Z109 a0 a1 a2 a3 a4=some (Z109_q a0 a1 a2 a3 a4):=by
 unfold Z109 Z109_q;refine Q.wrapPP fun Kj5 hKj5=>?_;have hj5:∀(y6_l0:Z2),Z109_j5  y6_l0=Kj5 y6_l0:=by
  intro y6_l0;refine Qe (hKj5 _) ?_;unfold Z109_j5;all_goals rfl
 refine Q.condP ?_ ?_
 ·all_goals exact hj5 _
 all_goals exact hj5 _
def Z39_qn:Nat->Int->Option Bs
 | 0,_=>none
 | n+1,a0=>(subC (48:Int) (Int.tmod a0 (10:Int))).bind fun x3=>bif (decide ((-10:Int)<a0)) then(some (bytesC (⟨false,[(IntKind.wrap .u8 x3)]⟩:Sl Int))) else(((Z39_qn n) (IntKind.wrap .i64 (Int.tdiv a0 (10:Int)))).bind fun x9=>(catC x9 (bytesC (⟨false,[(IntKind.wrap .u8 x3)]⟩:Sl Int))).bind fun x10=>some x10)
theorem Z39_qall:∀n:Nat,Z39_n n=Z39_qn n:=by
 intro n;induction n with
 | zero=>exact(by funext a0; first|rfl|(rw [Z39_n,Z39_qn]))
 | succ n ih =>
  funext a0
  refine Qs ?_;rw [Z39_n,Z39_qn];try rw [ih]
  refine Q.bindO rfl fun x3=>?_;refine Q.condO ?_ ?_
  ·all_goals rfl
  refine Q.bindO rfl fun x9=>?_;refine Q.bindO rfl fun x10=>?_;all_goals rfl
def Z39_q (a0:Int):Option Bs:=Z39_qn F0 a0
theorem Z39_eq (a0:Int):Z39 a0=Z39_q a0:=by
 unfold Z39 Z39_q; rw [(Z39_qall F0)]
def Z34_q (a0:Int):Option Bs:=bif (decide (a0<(0:Int))) then((Z39_q a0).bind fun x6=>(catC ([45]:Bs) x6).bind fun x7=>some x7) else((Z39_q (IntKind.wrap .i64 (0-a0))).bind fun x9=>some x9)
theorem Z34_eq (a0:Int):Z34 a0=Z34_q a0:=by
 unfold Z34 Z34_q;refine Qs ?_;refine Q.condO ?_ ?_
 ·refine Q.bindO (Z39_eq _) fun x6=>?_;refine Q.bindO rfl fun x7=>?_;all_goals rfl
 refine Q.bindO (Z39_eq _) fun x9=>?_;all_goals rfl
def Z41_q (a0:Int):Int:=bif (decide (a0<(10:Int))) then((IntKind.wrap .u8 ((48:Int)+a0))) else((IntKind.wrap .u8 ((87:Int)+a0)))
theorem Z41_eq (a0:Int):Z41 a0=some (Z41_q a0):=by
 unfold Z41 Z41_q;refine Q.condP ?_ ?_
 ·all_goals rfl
 all_goals rfl
def Z40_q (a0:Int):Option Bs:=bif (decide (a0=(34:Int))) then(some ([92,34]:Bs)) else(bif (decide (a0=(92:Int))) then(some ([92,92]:Bs)) else(bif (decide (a0=(10:Int))) then(some ([92,110]:Bs)) else(bif (decide (a0=(13:Int))) then(some ([92,114]:Bs)) else(bif (decide (a0=(9:Int))) then(some ([92,116]:Bs)) else(bif ((decide (a0<(32:Int)))||(decide ((126:Int)<a0))) then(on (Z41_q (IntKind.wrap .u8 (Int.tdiv a0 (16:Int)))) fun x23=>on (Z41_q (Int.tmod a0 (16:Int))) fun x24=>(catC ([92,117,48,48]:Bs) (bytesC (⟨false,[x23,x24]⟩:Sl Int))).bind fun x25=>some x25) else(some (bytesC (⟨false,[a0]⟩:Sl Int))))))))
theorem Z40_eq (a0:Int):Z40 a0=Z40_q a0:=by
 unfold Z40 Z40_q;refine Qs ?_;refine Q.condO ?_ ?_
 ·all_goals rfl
 refine Q.condO ?_ ?_
 ·all_goals rfl
 refine Q.condO ?_ ?_
 ·all_goals rfl
 refine Q.condO ?_ ?_
 ·all_goals rfl
 refine Q.condO ?_ ?_
 ·all_goals rfl
 refine Q.condO ?_ ?_
 ·refine Q.bindPO (Z41_eq _) fun x23 hx_x23=>?_;refine Q.bindPO (Z41_eq _) fun x24 hx_x24=>?_;refine Q.bindO rfl fun x25=>?_;all_goals rfl
 all_goals rfl
def Z36_q8 :List UInt8->Bs->Option (Bs)
 | [],s3_9=>some s3_9
 | h8::r8,s3_9=>on (h8) fun x16=>(Z40_q ((x16.toNat:Nat):Int)).bind fun x17=>(catC s3_9 x17).bind fun x18=>Z36_q8  (r8) x18
theorem Z36_l8_qe {a0:Bs}  (Kb8:(Bs)->Option Bs) (hend:∀(n8:Nat) (s3_9:Bs) (s4_10:Nat),Z36_j3   s3_9=Kb8 s3_9):∀(n8:Nat) (s3_9:Bs) (s4_10:Nat),(0<n8/\a0.length<s4_10+n8)->Z36_l8 a0 n8 s3_9 s4_10=Option.bind (Z36_q8  (a0.drop s4_10) s3_9) Kb8:=by
 intro n8;induction n8 with
 | zero=>intro s3_9 s4_10 hn; exact absurd hn.1 (by omega)
 | succ n8 ih8 =>
  intro s3_9 s4_10 hn;rw [Z36_l8];by_cases hlt:s4_10<a0.length
  ·obtain⟨h8,hh8⟩:=Qa hlt;rw [Q.drop_of hh8,Z36_q8];refine QT hlt ?_;refine Q.bindPO hh8 fun x16 hx_x16=>?_;refine Q.bindO (Z40_eq _) fun x17=>?_;refine Q.bindO rfl fun x18=>?_;all_goals exact ih8 _ _ ⟨by omega,by omega⟩
  rw [dL (by omega),Z36_q8];refine QF hlt ?_;exact hend n8 s3_9 s4_10
def Z36_q (a0:Bs):Option Bs:=Option.bind (Z36_q8  a0 ([34]:Bs)) fun s3_9=>on (s3_9) fun s3_4=>(catC s3_4 ([34]:Bs)).bind fun x6=>some x6
theorem Z36_eq (a0:Bs):Z36 a0=Z36_q a0:=by
 unfold Z36 Z36_q;refine Qs ?_;refine Q.wrapOO fun Kb8 hKb8=>?_;refine Z36_l8_qe  Kb8 ?_ _ _ _ ⟨Nat.succ_pos _,by omega⟩;intro n8 s3_9 s4_10;refine Qe (hKb8 _) ?_;refine Q.wrapPO fun Kj3 hKj3=>?_;have hj3:∀(s3_4:Bs),Z36_j3  s3_4=Kj3 s3_4:=by
  intro s3_4;refine Qe (hKj3 _) ?_;unfold Z36_j3;refine Q.bindO rfl fun x6=>?_;all_goals rfl
 all_goals exact hj3 _
def Z76_q7 (a1:Bs):List Bs->Nat->Bs->Option (Bs)
 | [],s6_9,s5_8=>some s5_8
 | h7::r7,s6_9,s5_8=>Option.bind (bif (decide ((0:Int)<((s6_9:Nat):Int))) then((catC s5_8 a1).bind fun x22=>some x22) else(some s5_8)) fun s5_17=>on (h7) fun x18=>(catC s5_17 x18).bind fun x19=>on (x19) fun s5_15=>Z76_q7 a1 (r7) (s6_9+1) s5_15
theorem Z76_l7_qe {a0:(Sl Bs)}{a1:Bs}  (Kb7:(Bs)->Option Bs) (hend:∀(n7:Nat) (s5_8:Bs) (s6_9:Nat),Z76_j3   s5_8=Kb7 s5_8):∀(n7:Nat) (s5_8:Bs) (s6_9:Nat),(0<n7/\a0.l.length<s6_9+n7)->Z76_l7 a0 a1 n7 s5_8 s6_9=Option.bind (Z76_q7 a1 (a0.l.drop s6_9) s6_9 s5_8) Kb7:=by
 intro n7;induction n7 with
 | zero=>intro s5_8 s6_9 hn; exact absurd hn.1 (by omega)
 | succ n7 ih7 =>
  intro s5_8 s6_9 hn;rw [Z76_l7];by_cases hlt:s6_9<a0.l.length
  ·obtain⟨h7,hh7⟩:=Qa hlt;rw [Q.drop_of hh7,Z76_q7];refine QT hlt ?_;refine Q.wrapOO fun Kj16 hKj16=>?_;have hj16:∀(s5_17:Bs),Z76_j16 a0 s6_9 (Z76_l7 a0 a1 n7) s5_17=Kj16 s5_17:=by
    intro s5_17;refine Qe (hKj16 _) ?_;unfold Z76_j16;refine Q.bindPO hh7 fun x18 hx_x18=>?_;refine Q.bindO rfl fun x19=>?_;refine Q.wrapPO fun Kj14 hKj14=>?_;have hj14:∀(s5_15:Bs),Z76_j14 s6_9 (Z76_l7 a0 a1 n7) s5_15=Kj14 s5_15:=by
     intro s5_15;refine Qe (hKj14 _) ?_;unfold Z76_j14;all_goals exact ih7 _ _ ⟨by omega,by omega⟩
    all_goals exact hj14 _
   refine Q.condO ?_ ?_
   ·refine Q.bindO rfl fun x22=>?_;all_goals exact hj16 _
   all_goals exact hj16 _
  rw [dL (by omega),Z76_q7];refine QF hlt ?_;exact hend n7 s5_8 s6_9
def Z76_q (a0:(Sl Bs)) (a1:Bs):Option Bs:=Option.bind (Z76_q7 a1 a0.l 0 ([]:Bs)) fun s5_8=>on (s5_8) fun s5_4=>some s5_4
theorem Z76_eq (a0:(Sl Bs)) (a1:Bs):Z76 a0 a1=Z76_q a0 a1:=by
 unfold Z76 Z76_q;refine Qs ?_;refine Q.wrapOO fun Kb7 hKb7=>?_;refine Z76_l7_qe  Kb7 ?_ _ _ _ ⟨Nat.succ_pos _,by omega⟩;intro n7 s5_8 s6_9;refine Qe (hKb7 _) ?_;refine Q.wrapPO fun Kj3 hKj3=>?_;have hj3:∀(s5_4:Bs),Z76_j3  s5_4=Kj3 s5_4:=by
  intro s5_4;refine Qe (hKj3 _) ?_;unfold Z76_j3;all_goals rfl
 all_goals exact hj3 _
end Go.Proofs

namespace Go.Proofs
open Go Go.Ab
def Z75_q36 (k_rec_212:Z7->Option Bs):List Z7->(Sl Bs)->Option ((Sl Bs))
 | [],s3_37=>some s3_37
 | h36::r36,s3_37=>on (h36) fun x44=>(k_rec_212 x44).bind fun x45=>(appC 16 s3_37 (⟨false,[x45]⟩:Sl Bs)).bind fun x46=>Z75_q36 k_rec_212 (r36) x46
theorem Z75_l36_qe {a0:Z7}{k_rec_212:Z7->Option Bs}  (Kb36:((Sl Bs))->Option Bs) (hend:∀(n36:Nat) (s3_37:(Sl Bs)) (s4_38:Nat),Z75_j29   s3_37=Kb36 s3_37):∀(n36:Nat) (s3_37:(Sl Bs)) (s4_38:Nat),(0<n36/\a0.FItems.l.length<s4_38+n36)->Z75_l36 a0 k_rec_212 n36 s3_37 s4_38=Option.bind (Z75_q36 k_rec_212 (a0.FItems.l.drop s4_38) s3_37) Kb36:=by
 intro n36;induction n36 with
 | zero=>intro s3_37 s4_38 hn; exact absurd hn.1 (by omega)
 | succ n36 ih36 =>
  intro s3_37 s4_38 hn;rw [Z75_l36];by_cases hlt:s4_38<a0.FItems.l.length
  ·obtain⟨h36,hh36⟩:=Qa hlt;rw [Q.drop_of hh36,Z75_q36];refine QT hlt ?_;refine Q.bindPO hh36 fun x44 hx_x44=>?_;refine Q.bindO rfl fun x45=>?_;refine Q.bindO rfl fun x46=>?_;all_goals exact ih36 _ _ ⟨by omega,by omega⟩
  rw [dL (by omega),Z75_q36];refine QF hlt ?_;exact hend n36 s3_37 s4_38
def Z75_q57 (a0:Z7) (k_rec_212:Z7->Option Bs):List Z7->Nat->(Sl Bs)->Option ((Sl Bs))
 | [],s6_59,s5_58=>some s5_58
 | h57::r57,s6_59,s5_58=>bif (decide (((s6_59:Nat):Int)<((a0.FKeys.l.length:Nat):Int))) then((a0.FKeys.l[s6_59]?).bind fun x65=>(catC x65 ([58,32]:Bs)).bind fun x66=>on (h57) fun x67=>(k_rec_212 x67).bind fun x68=>(catC x66 x68).bind fun x69=>(appC 16 s5_58 (⟨false,[x69]⟩:Sl Bs)).bind fun x70=>Z75_q57 a0 k_rec_212 (r57) (s6_59+1) x70) else(some s5_58)
theorem Z75_l57_qe {a0:Z7}{k_rec_212:Z7->Option Bs}  (Kb57:((Sl Bs))->Option Bs) (hend:∀(n57:Nat) (s5_58:(Sl Bs)) (s6_59:Nat),Z75_j50   s5_58=Kb57 s5_58):∀(n57:Nat) (s5_58:(Sl Bs)) (s6_59:Nat),(0<n57/\a0.FItems.l.length<s6_59+n57)->Z75_l57 a0 k_rec_212 n57 s5_58 s6_59=Option.bind (Z75_q57 a0 k_rec_212 (a0.FItems.l.drop s6_59) s6_59 s5_58) Kb57:=by
 intro n57;induction n57 with
 | zero=>intro s5_58 s6_59 hn; exact absurd hn.1 (by omega)
 | succ n57 ih57 =>
  intro s5_58 s6_59 hn;rw [Z75_l57];by_cases hlt:s6_59<a0.FItems.l.length
  ·obtain⟨h57,hh57⟩:=Qa hlt;rw [Q.drop_of hh57,Z75_q57];refine Q.condAT (Q.ltT hlt) ?_;refine Q.condO ?_ ?_
   ·refine Q.bindO rfl fun x65=>?_;refine Q.bindO rfl fun x66=>?_;refine Q.bindPO hh57 fun x67 hx_x67=>?_;refine Q.bindO rfl fun x68=>?_;refine Q.bindO rfl fun x69=>?_;refine Q.bindO rfl fun x70=>?_;all_goals exact ih57 _ _ ⟨by omega,by omega⟩
   all_goals exact hend n57 s5_58 s6_59
  rw [dL (by omega),Z75_q57];refine Q.condAF (Q.ltF hlt) ?_;exact hend n57 s5_58 s6_59
def Z75_qn:Nat->Z7->Option Bs
 | 0,_=>none
 | n+1,a0=>bif (decide (a0.FKind=(1:Int))) then(bif (decide (a0.FInt=(1:Int))) then(some ([116,114,117,101]:Bs)) else(some ([102,97,108,115,101]:Bs))) else(bif (decide (a0.FKind=(2:Int))) then((Z34_q a0.FInt).bind fun x14=>some x14) else(bif (decide (a0.FKind=(3:Int))) then((Z36_q a0.FText).bind fun x18=>some x18) else(bif (decide (a0.FKind=(4:Int))) then(some a0.FText) else(bif (decide (a0.FKind=(7:Int))) then((catC ([36]:Bs) a0.FText).bind fun x25=>some x25) else(bif (decide (a0.FKind=(5:Int))) then(Option.bind (Z75_q36 (Z75_qn n) a0.FItems.l (Sl.nil:Sl Bs)) fun s3_37=>on (s3_37) fun s3_30=>(Z76_q s3_30 ([44,32]:Bs)).bind fun x32=>(catC ([91]:Bs) x32).bind fun x33=>(catC x33 ([93]:Bs)).bind fun x34=>some x34) else(bif (decide (a0.FKind=(6:Int))) then(Option.bind (Z75_q57 a0 (Z75_qn n) a0.FItems.l 0 (Sl.nil:Sl Bs)) fun s5_58=>on (s5_58) fun s5_51=>(Z76_q s5_51 ([44,32]:Bs)).bind fun x53=>(catC ([123]:Bs) x53).bind fun x54=>(catC x54 ([125]:Bs)).bind fun x55=>some x55) else(some ([110,117,108,108]:Bs))))))))
theorem Z75_qall:∀n:Nat,Z75_n n=Z75_qn n:=by
 intro n;induction n with
 | zero=>exact(by funext a0; first|rfl|(rw [Z75_n,Z75_qn]))
 | succ n ih =>
  funext a0
  refine Qs ?_;rw [Z75_n,Z75_qn];try rw [ih]
  refine Q.condO ?_ ?_
  ·refine Q.condO ?_ ?_
   ·all_goals rfl
   all_goals rfl
  refine Q.condO ?_ ?_
  ·refine Q.bindO (Z34_eq _) fun x14=>?_;all_goals rfl
  refine Q.condO ?_ ?_
  ·refine Q.bindO (Z36_eq _) fun x18=>?_;all_goals rfl
  refine Q.condO ?_ ?_
  ·all_goals rfl
  refine Q.condO ?_ ?_
  ·refine Q.bindO rfl fun x25=>?_;all_goals rfl
  refine Q.condO ?_ ?_
  ·refine Q.wrapOO fun Kb36 hKb36=>?_;refine Z75_l36_qe  Kb36 ?_ _ _ _ ⟨Nat.succ_pos _,by omega⟩;intro n36 s3_37 s4_38;refine Qe (hKb36 _) ?_;refine Q.wrapPO fun Kj29 hKj29=>?_;have hj29:∀(s3_30:(Sl Bs)),Z75_j29  s3_30=Kj29 s3_30:=by
    intro s3_30;refine Qe (hKj29 _) ?_;unfold Z75_j29;refine Q.bindO (Z76_eq _ _) fun x32=>?_;refine Q.bindO rfl fun x33=>?_;refine Q.bindO rfl fun x34=>?_;all_goals rfl
   all_goals exact hj29 _
  refine Q.condO ?_ ?_
  ·refine Q.wrapOO fun Kb57 hKb57=>?_;refine Z75_l57_qe  Kb57 ?_ _ _ _ ⟨Nat.succ_pos _,by omega⟩;intro n57 s5_58 s6_59;refine Qe (hKb57 _) ?_;refine Q.wrapPO fun Kj50 hKj50=>?_;have hj50:∀(s5_51:(Sl Bs)),Z75_j50  s5_51=Kj50 s5_51:=by
    intro s5_51;refine Qe (hKj50 _) ?_;unfold Z75_j50;refine Q.bindO (Z76_eq _ _) fun x53=>?_;refine Q.bindO rfl fun x54=>?_;refine Q.bindO rfl fun x55=>?_;all_goals rfl
   all_goals exact hj50 _
  all_goals rfl
def Z75_q (a0:Z7):Option Bs:=Z75_qn F0 a0
theorem Z75_eq (a0:Z7):Z75 a0=Z75_q a0:=by
 unfold Z75 Z75_q; rw [(Z75_qall F0)]
def Z117_q (a0:Z5):Option Bs:=bif (!a0.FHas) then((Z59_q a0.FType).bind fun x6=>some x6) else((Z59_q a0.FType).bind fun x8=>(catC x8 ([32,61,32]:Bs)).bind fun x9=>(Z75_q a0.FDefault).bind fun x10=>(catC x9 x10).bind fun x11=>some x11)
theorem Z117_eq (a0:Z5):Z117 a0=Z117_q a0:=by
 unfold Z117 Z117_q;refine Qs ?_;refine Q.condO ?_ ?_
 ·refine Q.bindO (Z59_eq _) fun x6=>?_;all_goals rfl
 refine Q.bindO (Z59_eq _) fun x8=>?_;refine Q.bindO rfl fun x9=>?_;refine Q.bindO (Z75_eq _) fun x10=>?_;refine Q.bindO rfl fun x11=>?_;all_goals rfl
def Z48_q (a0:Int) (a1:Int):Int:=bif (decide (a0<a1)) then((-1:Int)) else(bif (decide (a1<a0)) then((1:Int)) else((0:Int)))
theorem Z48_eq (a0:Int) (a1:Int):Z48 a0 a1=some (Z48_q a0 a1):=by
 unfold Z48 Z48_q;refine Q.condP ?_ ?_
 ·all_goals rfl
 refine Q.condP ?_ ?_
 ·all_goals rfl
 all_goals rfl
def Z51_q (a0:Bs) (a1:Bs):Int:=bif (Op.bytesLess a0 a1) then((-1:Int)) else(bif (!(Op.bytesLess a0 a1||a0==a1)) then((1:Int)) else((0:Int)))
theorem Z51_eq (a0:Bs) (a1:Bs):Z51 a0 a1=some (Z51_q a0 a1):=by
 unfold Z51 Z51_q;refine Q.condP ?_ ?_
 ·all_goals rfl
 refine Q.condP ?_ ?_
 ·all_goals rfl
 all_goals rfl
def Z49_q (a0:Z7) (a1:Int):Option Bs:=bif (decide (a1<((a0.FKeys.l.length:Nat):Int))) then((idxC a0.FKeys.l a1).bind fun x7=>some x7) else(some ([]:Bs))
theorem Z49_eq (a0:Z7) (a1:Int):Z49 a0 a1=Z49_q a0 a1:=by
 unfold Z49 Z49_q;refine Qs ?_;refine Q.condO ?_ ?_
 ·refine Q.bindO rfl fun x7=>?_;all_goals rfl
 all_goals rfl
def Z46_q (a0:Z7) (a1:Z7):Option Bool:=(Z43 a0 a1).bind fun x3=>some (decide (x3=(0:Int)))
theorem Z46_eq (a0:Z7) (a1:Z7):Z46 a0 a1=Z46_q a0 a1:=by
 unfold Z46 Z46_q;refine Qs ?_;refine Q.bindO rfl fun x3=>?_;all_goals rfl
def Z115_q (a0:Z5):Option Bs:=bif (!a0.FHas) then(some ([]:Bs)) else((Z75_q a0.FDefault).bind fun x7=>some x7)
theorem Z115_eq (a0:Z5):Z115 a0=Z115_q a0:=by
 unfold Z115 Z115_q;refine Qs ?_;refine Q.condO ?_ ?_
 ·all_goals rfl
 refine Q.bindO (Z75_eq _) fun x7=>?_;all_goals rfl
def Z112_q30 (a1:(Sl Z5)) (a2:Z2) (a3:(Int×Int×Int×Int)):List Z5->(Sl Z2)->Option ((Sl Z2))
 | [],s9_31=>some s9_31
 | h30::r30,s9_31=>on (h30) fun x40=>on (Z80_q a1 x40.FName) fun x42=>Option.bind (bif (!x42.2) then((idxC ([a3.1,a3.2.1,a3.2.2.1,a3.2.2.2]:List Int) (0:Int)).bind fun x47=>(Z117_q x40).bind fun x48=>on (Z109_q a2 x47 x40.FName x48 ([]:Bs)) fun x49=>(appC 88 s9_31 (⟨false,[x49]⟩:Sl Z2)).bind fun x50=>some x50) else((Z61_q x40.FType x42.1.FType).bind fun x62=>Option.bind (bif (!x62) then((idxC ([a3.1,a3.2.1,a3.2.2.1,a3.2.2.2]:List Int) (2:Int)).bind fun x64=>(Z59_q x40.FType).bind fun x65=>(Z59_q x42.1.FType).bind fun x66=>on (Z109_q a2 x64 x40.FName x65 x66) fun x67=>(appC 88 s9_31 (⟨false,[x67]⟩:Sl Z2)).bind fun x68=>some x68) else(some s9_31)) fun s9_52=>guardO ((!(!(x40.FHas==x42.1.FHas))&&x40.FHas)) (Z46_q x40.FDefault x42.1.FDefault) false fun x54=>bif ((!(x40.FHas==x42.1.FHas))||(x40.FHas&&(!x54))) then((idxC ([a3.1,a3.2.1,a3.2.2.1,a3.2.2.2]:List Int) (3:Int)).bind fun x56=>(Z115_q x40).bind fun x57=>(Z115_q x42.1).bind fun x58=>on (Z109_q a2 x56 x40.FName x57 x58) fun x59=>(appC 88 s9_52 (⟨false,[x59]⟩:Sl Z2)).bind fun x60=>some x60) else(some s9_52))) fun s9_38=>Z112_q30 a1 a2 a3 (r30) s9_38
theorem Z112_l30_qe {a0:(Sl Z5)}{a1:(Sl Z5)}{a2:Z2}{a3:(Int×Int×Int×Int)}  (Kb30:((Sl Z2))->Option (Sl Z2)) (hend:∀(n30:Nat) (s9_31:(Sl Z2)) (s10_32:Nat),Z112_j3 a0 a1 a2 a3  s9_31=Kb30 s9_31):∀(n30:Nat) (s9_31:(Sl Z2)) (s10_32:Nat),(0<n30/\a0.l.length<s10_32+n30)->Z112_l30 a0 a1 a2 a3 n30 s9_31 s10_32=Option.bind (Z112_q30 a1 a2 a3 (a0.l.drop s10_32) s9_31) Kb30:=by
 intro n30;induction n30 with
 | zero=>intro s9_31 s10_32 hn; exact absurd hn.1 (by omega)
 | succ n30 ih30 =>
  intro s9_31 s10_32 hn;rw [Z112_l30];by_cases hlt:s10_32<a0.l.length
  ·obtain⟨h30,hh30⟩:=Qa hlt;rw [Q.drop_of hh30,Z112_q30];refine QT hlt ?_;refine Q.bindPO hh30 fun x40 hx_x40=>?_;refine Q.bindPO (Z80_eq _ _) fun x42 hx_x42=>?_;refine Q.wrapOO fun Kj37 hKj37=>?_;have hj37:∀(s9_38:(Sl Z2)),Z112_j37 s10_32 (Z112_l30 a0 a1 a2 a3 n30) s9_38=Kj37 s9_38:=by
    intro s9_38;refine Qe (hKj37 _) ?_;unfold Z112_j37;all_goals exact ih30 _ _ ⟨by omega,by omega⟩
   refine Q.condO ?_ ?_
   ·refine Q.bindO rfl fun x47=>?_;refine Q.bindO (Z117_eq _) fun x48=>?_;refine Q.bindPO (Z109_eq _ _ _ _ _) fun x49 hx_x49=>?_;refine Q.bindO rfl fun x50=>?_;all_goals exact hj37 _
   refine Q.bindO (Z61_eq _ _) fun x62=>?_;refine Q.wrapOO fun Kj51 hKj51=>?_;have hj51:∀(s9_52:(Sl Z2)),Z112_j51 a2 a3 s10_32 x40 x42 (Z112_l30 a0 a1 a2 a3 n30) s9_52=Kj51 s9_52:=by
    intro s9_52;refine Qe (hKj51 _) ?_;unfold Z112_j51;refine Q.guardOO (Z46_eq _ _) fun x54=>?_;refine Q.condO ?_ ?_
    ·refine Q.bindO rfl fun x56=>?_;refine Q.bindO (Z115_eq _) fun x57=>?_;refine Q.bindO (Z115_eq _) fun x58=>?_;refine Q.bindPO (Z109_eq _ _ _ _ _) fun x59 hx_x59=>?_;refine Q.bindO rfl fun x60=>?_;all_goals exact hj37 _
    all_goals exact hj37 _
   refine Q.condO ?_ ?_
   ·refine Q.bindO rfl fun x64=>?_;refine Q.bindO (Z59_eq _) fun x65=>?_;refine Q.bindO (Z59_eq _) fun x66=>?_;refine Q.bindPO (Z109_eq _ _ _ _ _) fun x67 hx_x67=>?_;refine Q.bindO rfl fun x68=>?_;all_goals exact hj51 _
   all_goals exact hj51 _
  rw [dL (by omega),Z112_q30];refine QF hlt ?_;exact hend n30 s9_31 s10_32
def Z112_q9 (a0:(Sl Z5)) (a2:Z2) (a3:(Int×Int×Int×Int)):List Z5->(Sl Z2)->Option ((Sl Z2))
 | [],s9_10=>some s9_10
 | h9::r9,s9_10=>on (h9) fun x19=>on (Z80_q a0 x19.FName) fun x20=>Option.bind (bif (!x20.2) then((idxC ([a3.1,a3.2.1,a3.2.2.1,a3.2.2.2]:List Int) (1:Int)).bind fun x23=>on (h9) fun x24=>on (h9) fun x25=>(Z117_q x25).bind fun x26=>on (Z109_q a2 x23 x24.FName ([]:Bs) x26) fun x27=>(appC 88 s9_10 (⟨false,[x27]⟩:Sl Z2)).bind fun x28=>some x28) else(some s9_10)) fun s9_17=>Z112_q9 a0 a2 a3 (r9) s9_17
theorem Z112_l9_qe {a0:(Sl Z5)}{a1:(Sl Z5)}{a2:Z2}{a3:(Int×Int×Int×Int)}  (Kb9:((Sl Z2))->Option (Sl Z2)) (hend:∀(n9:Nat) (s9_10:(Sl Z2)) (s14_11:Nat),Z112_j5   s9_10=Kb9 s9_10):∀(n9:Nat) (s9_10:(Sl Z2)) (s14_11:Nat),(0<n9/\a1.l.length<s14_11+n9)->Z112_l9 a0 a1 a2 a3 n9 s9_10 s14_11=Option.bind (Z112_q9 a0 a2 a3 (a1.l.drop s14_11) s9_10) Kb9:=by
 intro n9;induction n9 with
 | zero=>intro s9_10 s14_11 hn; exact absurd hn.1 (by omega)
 | succ n9 ih9 =>
  intro s9_10 s14_11 hn;rw [Z112_l9];by_cases hlt:s14_11<a1.l.length
  ·obtain⟨h9,hh9⟩:=Qa hlt;rw [Q.drop_of hh9,Z112_q9];refine QT hlt ?_;refine Q.bindPO hh9 fun x19 hx_x19=>?_;refine Q.bindPO (Z80_eq _ _) fun x20 hx_x20=>?_;refine Q.wrapOO fun Kj16 hKj16=>?_;have hj16:∀(s9_17:(Sl Z2)),Z112_j16 s14_11 (Z112_l9 a0 a1 a2 a3 n9) s9_17=Kj16 s9_17:=by
    intro s9_17;refine Qe (hKj16 _) ?_;unfold Z112_j16;all_goals exact ih9 _ _ ⟨by omega,by omega⟩
   refine Q.condO ?_ ?_
   ·refine Q.bindO rfl fun x23=>?_;refine Q.bindPO hh9 fun x24 hx_x24=>?_;refine Q.bindPO hh9 fun x25 hx_x25=>?_;refine Q.bindO (Z117_eq _) fun x26=>?_;refine Q.bindPO (Z109_eq _ _ _ _ _) fun x27 hx_x27=>?_;refine Q.bindO rfl fun x28=>?_;all_goals exact hj16 _
   all_goals exact hj16 _
  rw [dL (by omega),Z112_q9];refine QF hlt ?_;exact hend n9 s9_10 s14_11
def Z112_q (a0:(Sl Z5)) (a1:(Sl Z5)) (a2:Z2) (a3:(Int×Int×Int×Int)):Option (Sl Z2):=Option.bind (Z112_q30 a1 a2 a3 a0.l (Sl.nil:Sl Z2)) fun s9_31=>on (s9_31) fun s9_4=>Option.bind (Z112_q9 a0 a2 a3 a1.l s9_4) fun s9_10=>on (s9_10) fun s9_6=>some s9_6
theorem Z112_eq (a0:(Sl Z5)) (a1:(Sl Z5)) (a2:Z2) (a3:(Int×Int×Int×Int)):Z112 a0 a1 a2 a3=Z112_q a0 a1 a2 a3:=by
 unfold Z112 Z112_q;refine Qs ?_;refine Q.wrapOO fun Kb30 hKb30=>?_;refine Z112_l30_qe  Kb30 ?_ _ _ _ ⟨Nat.succ_pos _,by omega⟩;intro n30 s9_31 s10_32;refine Qe (hKb30 _) ?_;refine Q.wrapPO fun Kj3 hKj3=>?_;have hj3:∀(s9_4:(Sl Z2)),Z112_j3 a0 a1 a2 a3 s9_4=Kj3 s9_4:=by
  intro s9_4;refine Qe (hKj3 _) ?_;unfold Z112_j3;refine Q.wrapOO fun Kb9 hKb9=>?_;refine Z112_l9_qe  Kb9 ?_ _ _ _ ⟨Nat.succ_pos _,by omega⟩;intro n9 s9_10 s14_11;refine Qe (hKb9 _) ?_;refine Q.wrapPO fun Kj5 hKj5=>?_;have hj5:∀(s9_6:(Sl Z2)),Z112_j5  s9_6=Kj5 s9_6:=by
   intro s9_6;refine Qe (hKj5 _) ?_;unfold Z112_j5;all_goals rfl
  all_goals exact hj5 _
 all_goals exact hj3 _
def Z110_q28 (a0:TDef) (a1:TDef):List Z4->(Sl Z2)->Option ((Sl Z2))
 | [],s5_29=>some s5_29
 | h28::r28,s5_29=>on (h28) fun x38=>on (Z78_q a1 x38.FName) fun x41=>Option.bind (bif (!x41.2) then((Z59_q x38.FType).bind fun x47=>(appC 88 s5_29 (⟨false,[(Z2.mk (4:Int) ((Z2.mk (0:Int) a0.FName x38.FName ([]:Bs) ([]:Bs) ([]:Bs)).FType) ((Z2.mk (0:Int) a0.FName x38.FName ([]:Bs) ([]:Bs) ([]:Bs)).FField) ((Z2.mk (0:Int) a0.FName x38.FName ([]:Bs) ([]:Bs) ([]:Bs)).FArg) x47 ((Z2.mk (0:Int) a0.FName x38.FName ([]:Bs) ([]:Bs) ([]:Bs)).FTo))]⟩:Sl Z2)).bind fun x49=>some x49) else((Z61_q x38.FType x41.1.FType).bind fun x55=>Option.bind (bif (!x55) then((Z59_q x38.FType).bind fun x57=>(Z59_q x41.1.FType).bind fun x58=>(appC 88 s5_29 (⟨false,[(Z2.mk (6:Int) a0.FName x38.FName ([]:Bs) x57 x58)]⟩:Sl Z2)).bind fun x59=>some x59) else(some s5_29)) fun s5_51=>(Z112_q x38.FArgs x41.1.FArgs (Z2.mk (0:Int) a0.FName x38.FName ([]:Bs) ([]:Bs) ([]:Bs)) ((7:Int),(8:Int),(9:Int),(10:Int))).bind fun x52=>(appC 88 s5_51 x52).bind fun x53=>some x53)) fun s5_36=>Z110_q28 a0 a1 (r28) s5_36
theorem Z110_l28_qe {a0:TDef}{a1:TDef}  (Kb28:((Sl Z2))->Option (Sl Z2)) (hend:∀(n28:Nat) (s5_29:(Sl Z2)) (s6_30:Nat),Z110_j3 a0 a1  s5_29=Kb28 s5_29):∀(n28:Nat) (s5_29:(Sl Z2)) (s6_30:Nat),(0<n28/\a0.FFields.l.length<s6_30+n28)->Z110_l28 a0 a1 n28 s5_29 s6_30=Option.bind (Z110_q28 a0 a1 (a0.FFields.l.drop s6_30) s5_29) Kb28:=by
 intro n28;induction n28 with
 | zero=>intro s5_29 s6_30 hn; exact absurd hn.1 (by omega)
 | succ n28 ih28 =>
  intro s5_29 s6_30 hn;rw [Z110_l28];by_cases hlt:s6_30<a0.FFields.l.length
  ·obtain⟨h28,hh28⟩:=Qa hlt;rw [Q.drop_of hh28,Z110_q28];refine QT hlt ?_;refine Q.bindPO hh28 fun x38 hx_x38=>?_;refine Q.bindPO (Z78_eq _ _) fun x41 hx_x41=>?_;refine Q.wrapOO fun Kj35 hKj35=>?_;have hj35:∀(s5_36:(Sl Z2)),Z110_j35 s6_30 (Z110_l28 a0 a1 n28) s5_36=Kj35 s5_36:=by
    intro s5_36;refine Qe (hKj35 _) ?_;unfold Z110_j35;all_goals exact ih28 _ _ ⟨by omega,by omega⟩
   refine Q.condO ?_ ?_
   ·refine Q.bindO (Z59_eq _) fun x47=>?_;refine Q.bindO rfl fun x49=>?_;all_goals exact hj35 _
   refine Q.bindO (Z61_eq _ _) fun x55=>?_;refine Q.wrapOO fun Kj50 hKj50=>?_;have hj50:∀(s5_51:(Sl Z2)),Z110_j50 a0 s6_30 x38 x41 (Z110_l28 a0 a1 n28) s5_51=Kj50 s5_51:=by
    intro s5_51;refine Qe (hKj50 _) ?_;unfold Z110_j50;refine Q.bindO (Z112_eq _ _ _ _) fun x52=>?_;refine Q.bindO rfl fun x53=>?_;all_goals exact hj35 _
   refine Q.condO ?_ ?_
   ·refine Q.bindO (Z59_eq _) fun x57=>?_;refine Q.bindO (Z59_eq _) fun x58=>?_;refine Q.bindO rfl fun x59=>?_;all_goals exact hj50 _
   all_goals exact hj50 _
  rw [dL (by omega),Z110_q28];refine QF hlt ?_;exact hend n28 s5_29 s6_30
def Z110_q9 (a0:TDef):List Z4->(Sl Z2)->Option ((Sl Z2))
 | [],s5_10=>some s5_10
 | h9::r9,s5_10=>on (h9) fun x19=>on (Z78_q a0 x19.FName) fun x20=>Option.bind (bif (!x20.2) then(on (h9) fun x23=>on (h9) fun x24=>(Z59_q x24.FType).bind fun x25=>(appC 88 s5_10 (⟨false,[(Z2.mk (5:Int) a0.FName x23.FName ([]:Bs) ([]:Bs) x25)]⟩:Sl Z2)).bind fun x26=>some x26) else(some s5_10)) fun s5_17=>Z110_q9 a0 (r9) s5_17
theorem Z110_l9_qe {a0:TDef}{a1:TDef}  (Kb9:((Sl Z2))->Option (Sl Z2)) (hend:∀(n9:Nat) (s5_10:(Sl Z2)) (s11_11:Nat),Z110_j5   s5_10=Kb9 s5_10):∀(n9:Nat) (s5_10:(Sl Z2)) (s11_11:Nat),(0<n9/\a1.FFields.l.length<s11_11+n9)->Z110_l9 a0 a1 n9 s5_10 s11_11=Option.bind (Z110_q9 a0 (a1.FFields.l.drop s11_11) s5_10) Kb9:=by
 intro n9;induction n9 with
 | zero=>intro s5_10 s11_11 hn; exact absurd hn.1 (by omega)
 | succ n9 ih9 =>
  intro s5_10 s11_11 hn;rw [Z110_l9];by_cases hlt:s11_11<a1.FFields.l.length
  ·obtain⟨h9,hh9⟩:=Qa hlt;rw [Q.drop_of hh9,Z110_q9];refine QT hlt ?_;refine Q.bindPO hh9 fun x19 hx_x19=>?_;refine Q.bindPO (Z78_eq _ _) fun x20 hx_x20=>?_;refine Q.wrapOO fun Kj16 hKj16=>?_;have hj16:∀(s5_17:(Sl Z2)),Z110_j16 s11_11 (Z110_l9 a0 a1 n9) s5_17=Kj16 s5_17:=by
    intro s5_17;refine Qe (hKj16 _) ?_;unfold Z110_j16;all_goals exact ih9 _ _ ⟨by omega,by omega⟩
   refine Q.condO ?_ ?_
   ·refine Q.bindPO hh9 fun x23 hx_x23=>?_;refine Q.bindPO hh9 fun x24 hx_x24=>?_;refine Q.bindO (Z59_eq _) fun x25=>?_;refine Q.bindO rfl fun x26=>?_;all_goals exact hj16 _
   all_goals exact hj16 _
  rw [dL (by omega),Z110_q9];refine QF hlt ?_;exact hend n9 s5_10 s11_11
def Z110_q (a0:TDef) (a1:TDef):Option (Sl Z2):=Option.bind (Z110_q28 a0 a1 a0.FFields.l (Sl.nil:Sl Z2)) fun s5_29=>on (s5_29) fun s5_4=>Option.bind (Z110_q9 a0 a1.FFields.l s5_4) fun s5_10=>on (s5_10) fun s5_6=>some s5_6
theorem Z110_eq (a0:TDef) (a1:TDef):Z110 a0 a1=Z110_q a0 a1:=by
 unfold Z110 Z110_q;refine Qs ?_;refine Q.wrapOO fun Kb28 hKb28=>?_;refine Z110_l28_qe  Kb28 ?_ _ _ _ ⟨Nat.succ_pos _,by omega⟩;intro n28 s5_29 s6_30;refine Qe (hKb28 _) ?_;refine Q.wrapPO fun Kj3 hKj3=>?_;have hj3:∀(s5_4:(Sl Z2)),Z110_j3 a0 a1 s5_4=Kj3 s5_4:=by
  intro s5_4;refine Qe (hKj3 _) ?_;unfold Z110_j3;refine Q.wrapOO fun Kb9 hKb9=>?_;refine Z110_l9_qe  Kb9 ?_ _ _ _ ⟨Nat.succ_pos _,by omega⟩;intro n9 s5_10 s11_11;refine Qe (hKb9 _) ?_;refine Q.wrapPO fun Kj5 hKj5=>?_;have hj5:∀(s5_6:(Sl Z2)),Z110_j5  s5_6=Kj5 s5_6:=by
   intro s5_6;refine Qe (hKj5 _) ?_;unfold Z110_j5;all_goals rfl
  all_goals exact hj5 _
 all_goals exact hj3 _
def Z113_q5 (a1:Bs):List Z6->Unit ⊕ Bool
 | []=>Sum.inl ()
 | h5::r5=>on (h5) fun x13=>bif ((x13.FName==a1)) then(Sum.inr true) else(Z113_q5 a1 (r5) )
theorem Z113_l5_qe {a0:(Sl Z6)}{a1:Bs}  (Kb5:(Unit ⊕ Bool)->Option Bool) (hend:∀(n5:Nat) (s5_6:Nat),Z113_j2   =Kb5 (Sum.inl ())) (hret:∀e:Bool,some e=Kb5 (Sum.inr e)):∀(n5:Nat) (s5_6:Nat),(0<n5/\a0.l.length<s5_6+n5)->Z113_l5 a0 a1 n5 s5_6=Kb5 (Z113_q5 a1 (a0.l.drop s5_6) ):=by
 intro n5;induction n5 with
 | zero=>intro s5_6 hn; exact absurd hn.1 (by omega)
 | succ n5 ih5 =>
  intro s5_6 hn;rw [Z113_l5];by_cases hlt:s5_6<a0.l.length
  ·obtain⟨h5,hh5⟩:=Qa hlt;rw [Q.drop_of hh5,Z113_q5];refine QT hlt ?_;refine Q.bindP hh5 fun x13 hx_x13=>?_;refine Q.condP ?_ ?_
   ·all_goals exact hret _
   all_goals exact ih5 _ ⟨by omega,by omega⟩
  rw [dL (by omega),Z113_q5];refine QF hlt ?_;exact hend n5 s5_6
def Z113_q (a0:(Sl Z6)) (a1:Bs):Bool:=on (Z113_q5 a1 a0.l ) fun o5=>match o5 with|Sum.inl _=>(on (()) fun _=>false)|Sum.inr e5=>(e5)
theorem Z113_eq (a0:(Sl Z6)) (a1:Bs):Z113 a0 a1=some (Z113_q a0 a1):=by
 unfold Z113 Z113_q;refine Q.wrapPP fun Kb5 hKb5=>?_;refine Z113_l5_qe  Kb5 ?_ ?_ _ _ ⟨Nat.succ_pos _,by omega⟩
 ·intro n5 s5_6;refine Qe (hKb5 _) ?_;try dsimp only
  refine Q.wrapPP fun Kj2 hKj2=>?_;have hj2:Z113_j2  =Kj2 ():=by
   refine Qe (hKj2 _) ?_;unfold Z113_j2;all_goals rfl
  all_goals exact hj2
 intro e5;refine Qe (hKb5 _) ?_;try dsimp only
 all_goals rfl
def Z111_q5 (a1:Bs):List Bs->Unit ⊕ Bool
 | []=>Sum.inl ()
 | h5::r5=>on (h5) fun x13=>bif ((x13==a1)) then(Sum.inr true) else(Z111_q5 a1 (r5) )
theorem Z111_l5_qe {a0:(Sl Bs)}{a1:Bs}  (Kb5:(Unit ⊕ Bool)->Option Bool) (hend:∀(n5:Nat) (s5_6:Nat),Z111_j2   =Kb5 (Sum.inl ())) (hret:∀e:Bool,some e=Kb5 (Sum.inr e)):∀(n5:Nat) (s5_6:Nat),(0<n5/\a0.l.length<s5_6+n5)->Z111_l5 a0 a1 n5 s5_6=Kb5 (Z111_q5 a1 (a0.l.drop s5_6) ):=by
 intro n5;induction n5 with
 | zero=>intro s5_6 hn; exact absurd hn.1 (by omega)
 | succ n5 ih5 =>
  intro s5_6 hn;rw [Z111_l5];by_cases hlt:s5_6<a0.l.length
  ·obtain⟨h5,hh5⟩:=Qa hlt;rw [Q.drop_of hh5,Z111_q5];refine QT hlt ?_;refine Q.bindP hh5 fun x13 hx_x13=>?_;refine Q.condP ?_ ?_
   ·all_goals exact hret _
   all_goals exact ih5 _ ⟨by omega,by omega⟩
  rw [dL (by omega),Z111_q5];refine QF hlt ?_;exact hend n5 s5_6
def Z111_q (a0:(Sl Bs)) (a1:Bs):Bool:=on (Z111_q5 a1 a0.l ) fun o5=>match o5 with|Sum.inl _=>(on (()) fun _=>false)|Sum.inr e5=>(e5)
theorem Z111_eq (a0:(Sl Bs)) (a1:Bs):Z111 a0 a1=some (Z111_q a0 a1):=by
 unfold Z111 Z111_q;refine Q.wrapPP fun Kb5 hKb5=>?_;refine Z111_l5_qe  Kb5 ?_ ?_ _ _ ⟨Nat.succ_pos _,by omega⟩
 ·intro n5 s5_6;refine Qe (hKb5 _) ?_;try dsimp only
  refine Q.wrapPP fun Kj2 hKj2=>?_;have hj2:Z111_j2  =Kj2 ():=by
   refine Qe (hKj2 _) ?_;unfold Z111_j2;all_goals rfl
  all_goals exact hj2
 intro e5;refine Qe (hKb5 _) ?_;try dsimp only
 all_goals rfl
def Z114_q64 (a0:TDef) (a1:TDef):List Z6->(Sl Z2)->Option ((Sl Z2))
 | [],s5_65=>some s5_65
 | h64::r64,s5_65=>on (h64) fun x74=>on (Z113_q a1.FMembers x74.FName) fun x75=>Option.bind (bif (!x75) then(on (h64) fun x77=>(appC 88 s5_65 (⟨false,[(Z2.mk (11:Int) a0.FName x77.FName ([]:Bs) ([]:Bs) ([]:Bs))]⟩:Sl Z2)).bind fun x78=>some x78) else(some s5_65)) fun s5_72=>Z114_q64 a0 a1 (r64) s5_72
theorem Z114_l64_qe {a0:TDef}{a1:TDef}  (Kb64:((Sl Z2))->Option (Sl Z2)) (hend:∀(n64:Nat) (s5_65:(Sl Z2)) (s6_66:Nat),Z114_j3 a0 a1  s5_65=Kb64 s5_65):∀(n64:Nat) (s5_65:(Sl Z2)) (s6_66:Nat),(0<n64/\a0.FMembers.l.length<s6_66+n64)->Z114_l64 a0 a1 n64 s5_65 s6_66=Option.bind (Z114_q64 a0 a1 (a0.FMembers.l.drop s6_66) s5_65) Kb64:=by
 intro n64;induction n64 with
 | zero=>intro s5_65 s6_66 hn; exact absurd hn.1 (by omega)
 | succ n64 ih64 =>
  intro s5_65 s6_66 hn;rw [Z114_l64];by_cases hlt:s6_66<a0.FMembers.l.length
  ·obtain⟨h64,hh64⟩:=Qa hlt;rw [Q.drop_of hh64,Z114_q64];refine QT hlt ?_;refine Q.bindPO hh64 fun x74 hx_x74=>?_;refine Q.bindPO (Z113_eq _ _) fun x75 hx_x75=>?_;refine Q.wrapOO fun Kj71 hKj71=>?_;have hj71:∀(s5_72:(Sl Z2)),Z114_j71 s6_66 (Z114_l64 a0 a1 n64) s5_72=Kj71 s5_72:=by
    intro s5_72;refine Qe (hKj71 _) ?_;unfold Z114_j71;all_goals exact ih64 _ _ ⟨by omega,by omega⟩
   refine Q.condO ?_ ?_
   ·refine Q.bindPO hh64 fun x77 hx_x77=>?_;refine Q.bindO rfl fun x78=>?_;all_goals exact hj71 _
   all_goals exact hj71 _
  rw [dL (by omega),Z114_q64];refine QF hlt ?_;exact hend n64 s5_65 s6_66
def Z114_q48 (a0:TDef):List Z6->(Sl Z2)->Option ((Sl Z2))
 | [],s5_49=>some s5_49
 | h48::r48,s5_49=>on (h48) fun x58=>on (Z113_q a0.FMembers x58.FName) fun x59=>Option.bind (bif (!x59) then(on (h48) fun x61=>(appC 88 s5_49 (⟨false,[(Z2.mk (12:Int) a0.FName x61.FName ([]:Bs) ([]:Bs) ([]:Bs))]⟩:Sl Z2)).bind fun x62=>some x62) else(some s5_49)) fun s5_56=>Z114_q48 a0 (r48) s5_56
theorem Z114_l48_qe {a0:TDef}{a1:TDef}  (Kb48:((Sl Z2))->Option (Sl Z2)) (hend:∀(n48:Nat) (s5_49:(Sl Z2)) (s7_50:Nat),Z114_j5 a0 a1  s5_49=Kb48 s5_49):∀(n48:Nat) (s5_49:(Sl Z2)) (s7_50:Nat),(0<n48/\a1.FMembers.l.length<s7_50+n48)->Z114_l48 a0 a1 n48 s5_49 s7_50=Option.bind (Z114_q48 a0 (a1.FMembers.l.drop s7_50) s5_49) Kb48:=by
 intro n48;induction n48 with
 | zero=>intro s5_49 s7_50 hn; exact absurd hn.1 (by omega)
 | succ n48 ih48 =>
  intro s5_49 s7_50 hn;rw [Z114_l48];by_cases hlt:s7_50<a1.FMembers.l.length
  ·obtain⟨h48,hh48⟩:=Qa hlt;rw [Q.drop_of hh48,Z114_q48];refine QT hlt ?_;refine Q.bindPO hh48 fun x58 hx_x58=>?_;refine Q.bindPO (Z113_eq _ _) fun x59 hx_x59=>?_;refine Q.wrapOO fun Kj55 hKj55=>?_;have hj55:∀(s5_56:(Sl Z2)),Z114_j55 s7_50 (Z114_l48 a0 a1 n48) s5_56=Kj55 s5_56:=by
    intro s5_56;refine Qe (hKj55 _) ?_;unfold Z114_j55;all_goals exact ih48 _ _ ⟨by omega,by omega⟩
   refine Q.condO ?_ ?_
   ·refine Q.bindPO hh48 fun x61 hx_x61=>?_;refine Q.bindO rfl fun x62=>?_;all_goals exact hj55 _
   all_goals exact hj55 _
  rw [dL (by omega),Z114_q48];refine QF hlt ?_;exact hend n48 s5_49 s7_50
def Z114_q32 (a0:TDef) (a1:TDef):List Bs->(Sl Z2)->Option ((Sl Z2))
 | [],s5_33=>some s5_33
 | h32::r32,s5_33=>on (h32) fun x42=>on (Z111_q a1.FImplements x42) fun x43=>Option.bind (bif (!x43) then(on (h32) fun x45=>(appC 88 s5_33 (⟨false,[(Z2.mk (17:Int) a0.FName ([]:Bs) ([]:Bs) x45 ([]:Bs))]⟩:Sl Z2)).bind fun x46=>some x46) else(some s5_33)) fun s5_40=>Z114_q32 a0 a1 (r32) s5_40
theorem Z114_l32_qe {a0:TDef}{a1:TDef}  (Kb32:((Sl Z2))->Option (Sl Z2)) (hend:∀(n32:Nat) (s5_33:(Sl Z2)) (s8_34:Nat),Z114_j10 a0 a1  s5_33=Kb32 s5_33):∀(n32:Nat) (s5_33:(Sl Z2)) (s8_34:Nat),(0<n32/\a0.FImplements.l.length<s8_34+n32)->Z114_l32 a0 a1 n32 s5_33 s8_34=Option.bind (Z114_q32 a0 a1 (a0.FImplements.l.drop s8_34) s5_33) Kb32:=by
 intro n32;induction n32 with
 | zero=>intro s5_33 s8_34 hn; exact absurd hn.1 (by omega)
 | succ n32 ih32 =>
  intro s5_33 s8_34 hn;rw [Z114_l32];by_cases hlt:s8_34<a0.FImplements.l.length
  ·obtain⟨h32,hh32⟩:=Qa hlt;rw [Q.drop_of hh32,Z114_q32];refine QT hlt ?_;refine Q.bindPO hh32 fun x42 hx_x42=>?_;refine Q.bindPO (Z111_eq _ _) fun x43 hx_x43=>?_;refine Q.wrapOO fun Kj39 hKj39=>?_;have hj39:∀(s5_40:(Sl Z2)),Z114_j39 s8_34 (Z114_l32 a0 a1 n32) s5_40=Kj39 s5_40:=by
    intro s5_40;refine Qe (hKj39 _) ?_;unfold Z114_j39;all_goals exact ih32 _ _ ⟨by omega,by omega⟩
   refine Q.condO ?_ ?_
   ·refine Q.bindPO hh32 fun x45 hx_x45=>?_;refine Q.bindO rfl fun x46=>?_;all_goals exact hj39 _
   all_goals exact hj39 _
  rw [dL (by omega),Z114_q32];refine QF hlt ?_;exact hend n32 s5_33 s8_34
def Z114_q16 (a0:TDef):List Bs->(Sl Z2)->Option ((Sl Z2))
 | [],s5_17=>some s5_17
 | h16::r16,s5_17=>on (h16) fun x26=>on (Z111_q a0.FImplements x26) fun x27=>Option.bind (bif (!x27) then(on (h16) fun x29=>(appC 88 s5_17 (⟨false,[(Z2.mk (18:Int) a0.FName ([]:Bs) ([]:Bs) ([]:Bs) x29)]⟩:Sl Z2)).bind fun x30=>some x30) else(some s5_17)) fun s5_24=>Z114_q16 a0 (r16) s5_24
theorem Z114_l16_qe {a0:TDef}{a1:TDef}  (Kb16:((Sl Z2))->Option (Sl Z2)) (hend:∀(n16:Nat) (s5_17:(Sl Z2)) (s9_18:Nat),Z114_j12   s5_17=Kb16 s5_17):∀(n16:Nat) (s5_17:(Sl Z2)) (s9_18:Nat),(0<n16/\a1.FImplements.l.length<s9_18+n16)->Z114_l16 a0 a1 n16 s5_17 s9_18=Option.bind (Z114_q16 a0 (a1.FImplements.l.drop s9_18) s5_17) Kb16:=by
 intro n16;induction n16 with
 | zero=>intro s5_17 s9_18 hn; exact absurd hn.1 (by omega)
 | succ n16 ih16 =>
  intro s5_17 s9_18 hn;rw [Z114_l16];by_cases hlt:s9_18<a1.FImplements.l.length
  ·obtain⟨h16,hh16⟩:=Qa hlt;rw [Q.drop_of hh16,Z114_q16];refine QT hlt ?_;refine Q.bindPO hh16 fun x26 hx_x26=>?_;refine Q.bindPO (Z111_eq _ _) fun x27 hx_x27=>?_;refine Q.wrapOO fun Kj23 hKj23=>?_;have hj23:∀(s5_24:(Sl Z2)),Z114_j23 s9_18 (Z114_l16 a0 a1 n16) s5_24=Kj23 s5_24:=by
    intro s5_24;refine Qe (hKj23 _) ?_;unfold Z114_j23;all_goals exact ih16 _ _ ⟨by omega,by omega⟩
   refine Q.condO ?_ ?_
   ·refine Q.bindPO hh16 fun x29 hx_x29=>?_;refine Q.bindO rfl fun x30=>?_;all_goals exact hj23 _
   all_goals exact hj23 _
  rw [dL (by omega),Z114_q16];refine QF hlt ?_;exact hend n16 s5_17 s9_18
def Z114_q (a0:TDef) (a1:TDef):Option (Sl Z2):=Option.bind (Z114_q64 a0 a1 a0.FMembers.l (Sl.nil:Sl Z2)) fun s5_65=>on (s5_65) fun s5_4=>Option.bind (Z114_q48 a0 a1.FMembers.l s5_4) fun s5_49=>on (s5_49) fun s5_6=>(Z112_q a0.FInputs a1.FInputs (Z2.mk (0:Int) a0.FName ([]:Bs) ([]:Bs) ([]:Bs) ([]:Bs)) ((13:Int),(14:Int),(15:Int),(16:Int))).bind fun x8=>(appC 88 s5_6 x8).bind fun x9=>Option.bind (Z114_q32 a0 a1 a0.FImplements.l x9) fun s5_33=>on (s5_33) fun s5_11=>Option.bind (Z114_q16 a0 a1.FImplements.l s5_11) fun s5_17=>on (s5_17) fun s5_13=>some s5_13
theorem Z114_eq (a0:TDef) (a1:TDef):Z114 a0 a1=Z114_q a0 a1:=by
 unfold Z114 Z114_q;refine Qs ?_;refine Q.wrapOO fun Kb64 hKb64=>?_;refine Z114_l64_qe  Kb64 ?_ _ _ _ ⟨Nat.succ_pos _,by omega⟩;intro n64 s5_65 s6_66;refine Qe (hKb64 _) ?_;refine Q.wrapPO fun Kj3 hKj3=>?_;have hj3:∀(s5_4:(Sl Z2)),Z114_j3 a0 a1 s5_4=Kj3 s5_4:=by
  intro s5_4;refine Qe (hKj3 _) ?_;unfold Z114_j3;refine Q.wrapOO fun Kb48 hKb48=>?_;refine Z114_l48_qe  Kb48 ?_ _ _ _ ⟨Nat.succ_pos _,by omega⟩;intro n48 s5_49 s7_50;refine Qe (hKb48 _) ?_;refine Q.wrapPO fun Kj5 hKj5=>?_;have hj5:∀(s5_6:(Sl Z2)),Z114_j5 a0 a1 s5_6=Kj5 s5_6:=by
   intro s5_6;refine Qe (hKj5 _) ?_;unfold Z114_j5;refine Q.bindO (Z112_eq _ _ _ _) fun x8=>?_;refine Q.bindO rfl fun x9=>?_;refine Q.wrapOO fun Kb32 hKb32=>?_;refine Z114_l32_qe  Kb32 ?_ _ _ _ ⟨Nat.succ_pos _,by omega⟩;intro n32 s5_33 s8_34;refine Qe (hKb32 _) ?_;refine Q.wrapPO fun Kj10 hKj10=>?_;have hj10:∀(s5_11:(Sl Z2)),Z114_j10 a0 a1 s5_11=Kj10 s5_11:=by
    intro s5_11;refine Qe (hKj10 _) ?_;unfold Z114_j10;refine Q.wrapOO fun Kb16 hKb16=>?_;refine Z114_l16_qe  Kb16 ?_ _ _ _ ⟨Nat.succ_pos _,by omega⟩;intro n16 s5_17 s9_18;refine Qe (hKb16 _) ?_;refine Q.wrapPO fun Kj12 hKj12=>?_;have hj12:∀(s5_13:(Sl Z2)),Z114_j12  s5_13=Kj12 s5_13:=by
     intro s5_13;refine Qe (hKj12 _) ?_;unfold Z114_j12;all_goals rfl
    all_goals exact hj12 _
   all_goals exact hj10 _
  all_goals exact hj5 _
 all_goals exact hj3 _
def Z107_q56 (a1:TDoc):List TDef->(Sl Z2)->Option ((Sl Z2))
 | [],s5_57=>some s5_57
 | h56::r56,s5_57=>on (h56) fun x66=>on (Z79_q a1 x66.FName) fun x67=>Option.bind (bif (!x67.2) then(on (h56) fun x70=>on (h56) fun x71=>on (Z116_q x71.FKind) fun x72=>(appC 88 s5_57 (⟨false,[(Z2.mk (1:Int) x70.FName ([]:Bs) ([]:Bs) x72 ([]:Bs))]⟩:Sl Z2)).bind fun x73=>some x73) else(some s5_57)) fun s5_64=>Z107_q56 a1 (r56) s5_64
theorem Z107_l56_qe {a0:TDoc}{a1:TDoc}  (Kb56:((Sl Z2))->Option (Sl Z2)) (hend:∀(n56:Nat) (s5_57:(Sl Z2)) (s6_58:Nat),Z107_j3 a0 a1  s5_57=Kb56 s5_57):∀(n56:Nat) (s5_57:(Sl Z2)) (s6_58:Nat),(0<n56/\a0.FDefs.l.length<s6_58+n56)->Z107_l56 a0 a1 n56 s5_57 s6_58=Option.bind (Z107_q56 a1 (a0.FDefs.l.drop s6_58) s5_57) Kb56:=by
 intro n56;induction n56 with
 | zero=>intro s5_57 s6_58 hn; exact absurd hn.1 (by omega)
 | succ n56 ih56 =>
  intro s5_57 s6_58 hn;rw [Z107_l56];by_cases hlt:s6_58<a0.FDefs.l.length
  ·obtain⟨h56,hh56⟩:=Qa hlt;rw [Q.drop_of hh56,Z107_q56];refine QT hlt ?_;refine Q.bindPO hh56 fun x66 hx_x66=>?_;refine Q.bindPO (Z79_eq _ _) fun x67 hx_x67=>?_;refine Q.wrapOO fun Kj63 hKj63=>?_;have hj63:∀(s5_64:(Sl Z2)),Z107_j63 s6_58 (Z107_l56 a0 a1 n56) s5_64=Kj63 s5_64:=by
    intro s5_64;refine Qe (hKj63 _) ?_;unfold Z107_j63;all_goals exact ih56 _ _ ⟨by omega,by omega⟩
   refine Q.condO ?_ ?_
   ·refine Q.bindPO hh56 fun x70 hx_x70=>?_;refine Q.bindPO hh56 fun x71 hx_x71=>?_;refine Q.bindPO (Z116_eq _) fun x72 hx_x72=>?_;refine Q.bindO rfl fun x73=>?_;all_goals exact hj63 _
   all_goals exact hj63 _
  rw [dL (by omega),Z107_q56];refine QF hlt ?_;exact hend n56 s5_57 s6_58
def Z107_q30 (a1:TDoc):List TDef->(Sl Z2)->Option ((Sl Z2))
 | [],s5_31=>some s5_31
 | h30::r30,s5_31=>on (h30) fun x40=>on (Z79_q a1 x40.FName) fun x42=>Option.bind (bif (x42.2&&(!decide (x40.FKind=x42.1.FKind))) then(on (Z116_q x40.FKind) fun x45=>on (Z116_q x42.1.FKind) fun x46=>(appC 88 s5_31 (⟨false,[(Z2.mk (3:Int) x40.FName ([]:Bs) ([]:Bs) x45 x46)]⟩:Sl Z2)).bind fun x47=>some x47) else(bif x42.2 then((Z110_q x40 x42.1).bind fun x51=>(appC 88 s5_31 x51).bind fun x52=>(Z114_q x40 x42.1).bind fun x53=>(appC 88 x52 x53).bind fun x54=>some x54) else(some s5_31))) fun s5_38=>Z107_q30 a1 (r30) s5_38
theorem Z107_l30_qe {a0:TDoc}{a1:TDoc}  (Kb30:((Sl Z2))->Option (Sl Z2)) (hend:∀(n30:Nat) (s5_31:(Sl Z2)) (s9_32:Nat),Z107_j5 a0 a1  s5_31=Kb30 s5_31):∀(n30:Nat) (s5_31:(Sl Z2)) (s9_32:Nat),(0<n30/\a0.FDefs.l.length<s9_32+n30)->Z107_l30 a0 a1 n30 s5_31 s9_32=Option.bind (Z107_q30 a1 (a0.FDefs.l.drop s9_32) s5_31) Kb30:=by
 intro n30;induction n30 with
 | zero=>intro s5_31 s9_32 hn; exact absurd hn.1 (by omega)
 | succ n30 ih30 =>
  intro s5_31 s9_32 hn;rw [Z107_l30];by_cases hlt:s9_32<a0.FDefs.l.length
  ·obtain⟨h30,hh30⟩:=Qa hlt;rw [Q.drop_of hh30,Z107_q30];refine QT hlt ?_;refine Q.bindPO hh30 fun x40 hx_x40=>?_;refine Q.bindPO (Z79_eq _ _) fun x42 hx_x42=>?_;refine Q.wrapOO fun Kj37 hKj37=>?_;have hj37:∀(s5_38:(Sl Z2)),Z107_j37 s9_32 (Z107_l30 a0 a1 n30) s5_38=Kj37 s5_38:=by
    intro s5_38;refine Qe (hKj37 _) ?_;unfold Z107_j37;all_goals exact ih30 _ _ ⟨by omega,by omega⟩
   refine Q.condO ?_ ?_
   ·refine Q.bindPO (Z116_eq _) fun x45 hx_x45=>?_;refine Q.bindPO (Z116_eq _) fun x46 hx_x46=>?_;refine Q.bindO rfl fun x47=>?_;all_goals exact hj37 _
   refine Q.condO ?_ ?_
   ·refine Q.bindO (Z110_eq _ _) fun x51=>?_;refine Q.bindO rfl fun x52=>?_;refine Q.bindO (Z114_eq _ _) fun x53=>?_;refine Q.bindO rfl fun x54=>?_;all_goals exact hj37 _
   all_goals exact hj37 _
  rw [dL (by omega),Z107_q30];refine QF hlt ?_;exact hend n30 s5_31 s9_32
def Z107_q11 (a0:TDoc):List TDef->(Sl Z2)->Option ((Sl Z2))
 | [],s5_12=>some s5_12
 | h11::r11,s5_12=>on (h11) fun x21=>on (Z79_q a0 x21.FName) fun x22=>Option.bind (bif (!x22.2) then(on (h11) fun x25=>on (h11) fun x26=>on (Z116_q x26.FKind) fun x27=>(appC 88 s5_12 (⟨false,[(Z2.mk (2:Int) x25.FName ([]:Bs) ([]:Bs) ([]:Bs) x27)]⟩:Sl Z2)).bind fun x28=>some x28) else(some s5_12)) fun s5_19=>Z107_q11 a0 (r11) s5_19
theorem Z107_l11_qe {a0:TDoc}{a1:TDoc}  (Kb11:((Sl Z2))->Option (Sl Z2)) (hend:∀(n11:Nat) (s5_12:(Sl Z2)) (s13_13:Nat),Z107_j7   s5_12=Kb11 s5_12):∀(n11:Nat) (s5_12:(Sl Z2)) (s13_13:Nat),(0<n11/\a1.FDefs.l.length<s13_13+n11)->Z107_l11 a0 a1 n11 s5_12 s13_13=Option.bind (Z107_q11 a0 (a1.FDefs.l.drop s13_13) s5_12) Kb11:=by
 intro n11;induction n11 with
 | zero=>intro s5_12 s13_13 hn; exact absurd hn.1 (by omega)
 | succ n11 ih11 =>
  intro s5_12 s13_13 hn;rw [Z107_l11];by_cases hlt:s13_13<a1.FDefs.l.length
  ·obtain⟨h11,hh11⟩:=Qa hlt;rw [Q.drop_of hh11,Z107_q11];refine QT hlt ?_;refine Q.bindPO hh11 fun x21 hx_x21=>?_;refine Q.bindPO (Z79_eq _ _) fun x22 hx_x22=>?_;refine Q.wrapOO fun Kj18 hKj18=>?_;have hj18:∀(s5_19:(Sl Z2)),Z107_j18 s13_13 (Z107_l11 a0 a1 n11) s5_19=Kj18 s5_19:=by
    intro s5_19;refine Qe (hKj18 _) ?_;unfold Z107_j18;all_goals exact ih11 _ _ ⟨by omega,by omega⟩
   refine Q.condO ?_ ?_
   ·refine Q.bindPO hh11 fun x25 hx_x25=>?_;refine Q.bindPO hh11 fun x26 hx_x26=>?_;refine Q.bindPO (Z116_eq _) fun x27 hx_x27=>?_;refine Q.bindO rfl fun x28=>?_;all_goals exact hj18 _
   all_goals exact hj18 _
  rw [dL (by omega),Z107_q11];refine QF hlt ?_;exact hend n11 s5_12 s13_13
def Z107_q (a0:TDoc) (a1:TDoc):Option (Sl Z2):=Option.bind (Z107_q56 a1 a0.FDefs.l (Sl.nil:Sl Z2)) fun s5_57=>on (s5_57) fun s5_4=>Option.bind (Z107_q30 a1 a0.FDefs.l s5_4) fun s5_31=>on (s5_31) fun s5_6=>Option.bind (Z107_q11 a0 a1.FDefs.l s5_6) fun s5_12=>on (s5_12) fun s5_8=>some s5_8
theorem Z107_eq (a0:TDoc) (a1:TDoc):Z107 a0 a1=Z107_q a0 a1:=by
 unfold Z107 Z107_q;refine Qs ?_;refine Q.wrapOO fun Kb56 hKb56=>?_;refine Z107_l56_qe  Kb56 ?_ _ _ _ ⟨Nat.succ_pos _,by omega⟩;intro n56 s5_57 s6_58;refine Qe (hKb56 _) ?_;refine Q.wrapPO fun Kj3 hKj3=>?_;have hj3:∀(s5_4:(Sl Z2)),Z107_j3 a0 a1 s5_4=Kj3 s5_4:=by
  intro s5_4;refine Qe (hKj3 _) ?_;unfold Z107_j3;refine Q.wrapOO fun Kb30 hKb30=>?_;refine Z107_l30_qe  Kb30 ?_ _ _ _ ⟨Nat.succ_pos _,by omega⟩;intro n30 s5_31 s9_32;refine Qe (hKb30 _) ?_;refine Q.wrapPO fun Kj5 hKj5=>?_;have hj5:∀(s5_6:(Sl Z2)),Z107_j5 a0 a1 s5_6=Kj5 s5_6:=by
   intro s5_6;refine Qe (hKj5 _) ?_;unfold Z107_j5;refine Q.wrapOO fun Kb11 hKb11=>?_;refine Z107_l11_qe  Kb11 ?_ _ _ _ ⟨Nat.succ_pos _,by omega⟩;intro n11 s5_12 s13_13;refine Qe (hKb11 _) ?_;refine Q.wrapPO fun Kj7 hKj7=>?_;have hj7:∀(s5_8:(Sl Z2)),Z107_j7  s5_8=Kj7 s5_8:=by
    intro s5_8;refine Qe (hKj7 _) ?_;unfold Z107_j7;all_goals rfl
   all_goals exact hj7 _
  all_goals exact hj5 _
 all_goals exact hj3 _
def Z30_q (a0:TDoc) (a1:TDoc):Option Bool:=(Z32_q a0).bind fun x4=>guardO (!(!x4)) (Z32_q a1) false fun x5=>bif ((!x4)||(!x5)) then((Z31).bind fun x8=>some x8) else((Z10_q a0 a1).bind fun x10=>(Z107_q a0 a1).bind fun x11=>(Z108_q x10 x11).bind fun x12=>guardO (x12) (Z31) false fun x13=>some (x12&&x13))
theorem Z30_eq (a0:TDoc) (a1:TDoc):Z30 a0 a1=Z30_q a0 a1:=by
 unfold Z30 Z30_q;refine Qs ?_;refine Q.bindO (Z32_eq _) fun x4=>?_;refine Q.guardOO (Z32_eq _) fun x5=>?_;refine Q.condO ?_ ?_
 ·refine Q.bindO rfl fun x8=>?_;all_goals rfl
 refine Q.bindO (Z10_eq _ _) fun x10=>?_;refine Q.bindO (Z107_eq _ _) fun x11=>?_;refine Q.bindO (Z108_eq _ _) fun x12=>?_;refine Q.guardOO rfl fun x13=>?_;all_goals rfl
end Go.Proofs

namespace Go.Proofs
theorem fm_append {α β:Type}(f g:α->List β):∀l:List α,(l.flatMap fun y=>f y++g y).Perm (l.flatMap f++l.flatMap g)
 | []=>.nil
 | a::l=>by
  simp only [List.flatMap_cons,List.append_assoc];refine List.Perm.append_left _ ?_;refine((fm_append f g l).append_left _).trans ?_;rw [<- List.append_assoc,<- List.append_assoc];exact List.perm_append_comm.append_right _
theorem fm_swap {α β γ:Type}(f:α->β->List γ) (B:List β):∀A:List α,(A.flatMap fun x=>B.flatMap (f x)).Perm (B.flatMap fun y=>A.flatMap fun x=>f x y)
 | []=>by simp
 | a::A=>by
  simp only [List.flatMap_cons];exact((fm_swap f B A).append_left _).trans (fm_append _ _ B).symm
theorem fm_perm {α β:Type}(f g:α->List β):∀l:List α,(∀x∈l,(f x).Perm (g x))->(l.flatMap f).Perm (l.flatMap g)
 | [],_=>.nil
 | a::l,h=>by
  simp only [List.flatMap_cons];exact(h a (by simp)).append (fm_perm f g l fun x hx=>h x (by simp [hx]))
section
variable {α κ γ:Type} [BEq κ] [LawfulBEq κ]
def prs (key:α->κ) (w:α->α->List γ) (A B:List α):List γ:=A.flatMap fun x=>match B.find? (fun t=>key t==key x) with|some y=>w x y|none=>[]
def lon (key:α->κ) (g:α->List γ) (A B:List α):List γ:=A.flatMap fun x=>match B.find? (fun t=>key t==key x) with|some _=>[]|none=>g x
def dif (key:α->κ) (w:α->α->List γ) (g:α->List γ) (A B:List α):List γ:=A.flatMap fun x=>match B.find? (fun t=>key t==key x) with|some y=>w x y|none=>g x
def Dst (key:α->κ) (A:List α):Prop:=A.Pairwise fun x y=>key x≠key y
theorem fm_find (key:α->κ) (k:κ) (w:α->List γ):∀B:List α,Dst key B->(B.flatMap fun y=>bif key y==k then w y else [])=(match B.find? (fun t=>key t==k) with|some y=>w y|none=>[])
 | [],_=>rfl
 | b::B,h=>by
  obtain⟨h1,h2⟩:=List.pairwise_cons.mp h;rw [List.flatMap_cons,fm_find key k w B h2,List.find?_cons];cases hb:key b==k
  ·rfl
  ·have:B.find? (fun t=>key t==k)=none:=by
    rw [List.find?_eq_none];intro x hx e;exact h1 x hx ((eq_of_beq hb).trans (eq_of_beq e).symm)
   rw [this]; simp
theorem prs_perm {key:α->κ}{w w':α->α->List γ}{A B:List α}(hA:Dst key A) (hB:Dst key B) (h:∀x∈A,∀y∈B,key y=key x->(w x y).Perm (w' y x)):(prs key w A B).Perm (prs key w' B A):=by
 have e1:prs key w A B=A.flatMap fun x=>B.flatMap fun y=>bif key y==key x then w x y else []:=by
  unfold prs; congr 1; funext x; exact(fm_find key (key x) (w x) B hB).symm
 have e2:prs key w' B A=B.flatMap fun y=>A.flatMap fun x=>bif key x==key y then w' y x else []:=by
  unfold prs; congr 1; funext y; exact(fm_find key (key y) (w' y) A hA).symm
 rw [e1,e2];refine(fm_swap _ B A).trans (fm_perm _ _ B fun y hy=>fm_perm _ _ A fun x hx=>?_);cases hk:key y==key x
 ·rw [show (key x==key y)=false from by rw [beq_eq_false_iff_ne] at hk ⊢; exact fun e=>hk e.symm]; exact .nil
 ·rw [show (key x==key y)=true from beq_iff_eq.mpr (eq_of_beq hk).symm]; exact h x hx y hy (eq_of_beq hk)
omit [LawfulBEq κ] in
theorem dif_split (key:α->κ) (w:α->α->List γ) (g:α->List γ) (A B:List α):(dif key w g A B).Perm (prs key w A B++lon key g A B):=by
 refine .trans (.of_eq ?_) (fm_append _ _ A);unfold dif; congr 1; funext x;cases B.find? (fun t=>key t==key x)<;>simp
end
section
variable {α κ γ:Type} [BEq κ] [LawfulBEq κ]
omit [LawfulBEq κ] in
theorem dif_len1 {key:α->κ}{w:α->α->List γ}{g:α->List γ}{f e:α->Nat}{B:List α}:∀{A:List α},(∀x∈A,∀y∈B,(w x y).length<=f x+e y)->(∀x∈A,(g x).length<=f x) ->
  (dif key w g A B).length<=(A.map f).sum+(prs key (fun _ y=>List.replicate (e y) ()) A B).length
 | [],_,_=>by simp [dif]
 | x::A,hw,hg=>by
  have ih:=dif_len1 (key:=key) (w:=w) (g:=g) (f:=f) (e:=e) (B:=B) (A:=A) (fun x hx=>hw x (.tail _ hx)) (fun x hx=>hg x (.tail _ hx));unfold dif prs at ih ⊢;simp only [] at ih;simp only [List.flatMap_cons,List.length_append,List.map_cons,List.sum_cons];have h1:=hg x (.head _);cases hb:B.find? (fun t=>key t==key x) with
  | none=>simp only [List.length_nil]; omega
  | some y =>
   have h2:=hw x (.head _) y (List.mem_of_find?_eq_some hb);simp only [List.length_replicate]; omega
omit [LawfulBEq κ] in
theorem lon_len {key:α->κ}{n:α->List γ}{e:α->Nat}{A:List α}:∀{B:List α},(∀y∈B,(n y).length<=e y)->(lon key n B A).length+(prs key (fun y _=>List.replicate (e y) ()) B A).length<=(B.map e).sum
 | [],_=>by simp [lon,prs]
 | y::B,hn=>by
  have ih:=lon_len (key:=key) (n:=n) (e:=e) (A:=A) (B:=B) (fun x hx=>hn x (.tail _ hx));unfold lon prs at ih ⊢;simp only [] at ih;simp only [List.flatMap_cons,List.length_append,List.map_cons,List.sum_cons];have h1:=hn y (.head _);cases hb:A.find? (fun t=>key t==key y) with
  | none=>simp only [List.length_nil]; omega
  | some x=>simp only [List.length_replicate,List.length_nil]; omega
theorem dif_len {key:α->κ}{w:α->α->List γ}{g n:α->List γ}{f e:α->Nat}{A B:List α}(hA:Dst key A) (hB:Dst key B) (hw:∀x∈A,∀y∈B,(w x y).length<=f x+e y) (hg:∀x∈A,(g x).length<=f x) (hn:∀y∈B,(n y).length<=e y) :
  (dif key w g A B++lon key n B A).length<=(A.map f).sum+(B.map e).sum:=by
 have h1:=dif_len1 (key:=key) hw hg;have h2:=lon_len (key:=key) (A:=A) hn;have h3:=(prs_perm (key:=key) (w:=fun _ y=>List.replicate (e y) ()) (w':=fun y _=>List.replicate (e y) ()) hA hB (fun _ _ _ _ _=>.rfl)).length_eq;rw [List.length_append]; omega
end
end Go.Proofs

namespace Go.Proofs
open Go Go.Ab
def Tl {α:Type}(o:Option (Sl α)) (b:Nat):Prop:=∃r,o=some r/\r.l.length<=b
theorem Tl.mono {α:Type}{o:Option (Sl α)}{a b:Nat}(h:Tl o a) (hb:a<=b):Tl o b:=by obtain⟨r,h1,h2⟩:=h; exact⟨r,h1,by omega⟩
theorem app24 {s r:Sl Z3}(h:s.l.length+r.l.length<=1073741824):∃v,appC 24 s r=some v/\v.l.length=s.l.length+r.l.length:=⟨_,appC_ok (by decide) (by omega),by simp⟩
theorem Tl.add1 {s:Sl Z3}{x:Z3}{b:Nat}(h:s.l.length<=b) (hb:b<=1000000000):Tl ((appC 24 s (⟨false,[x]⟩:Sl Z3)).bind fun y=>some y) (b+1):=by
 obtain⟨v,h1,h2⟩:=app24 (s:=s) (r:=⟨false,[x]⟩) (by simp; omega);exact⟨v,by rw [h1]; rfl,by rw [h2]; simp; omega⟩
theorem Tl.bind {α β:Type}{o:Option (Sl α)}{k:Sl α->Option (Sl β)}{a b:Nat}(h:Tl o a) (hk:∀r:Sl α,r.l.length<=a->Tl (k r) b):Tl (o.bind k) b:=by
 obtain⟨r,h1,h2⟩:=h;rw [h1]; exact hk r h2
theorem Bs.len_le (s:Bs):s.length<=Bs.sz s:=Nat.le_succ _
theorem reserved_ok (s:Bs):∃v,Z37_q s=some v:=by
 unfold Z37_q
 match s with
 | []=>exact⟨_,rfl⟩
 | [a]=>exact⟨_,rfl⟩
 | a::b::r =>
  rw [show decide ((2:Int)<=(((a::b::r:Bs).length:Nat):Int))=true from decide_eq_true (by simp only [List.length_cons]; omega)];simp only [guardO,if_true,List.getElem?_cons_zero,List.getElem?_cons_succ,Option.bind_some,Bool.true_and]
  split<;>exact⟨_,rfl⟩
theorem allowed_ok (s:Bs):∃v,Z84_q s=some v:=by
 unfold Z84_q;simp only [Ab.on];cases Z35_q s
 ·exact⟨_,rfl⟩
 ·obtain⟨v,hv⟩:=reserved_ok s;simp only [guardO,if_true,hv];exact⟨_,rfl⟩
theorem names_tl (a:Bs) (b c:Bool) (d:Bs):Tl (Z93_q a b c d) 2:=by
 unfold Z93_q;obtain⟨v,hv⟩:=allowed_ok a;have h1:∀z:Bool,Tl (bif z then((appC 24 (Sl.nil:Sl Z3) (⟨false,[(Z3.mk (6:Int) d)]⟩:Sl Z3)).bind fun x14=>some x14) else(some (Sl.nil:Sl Z3))) 1:=by
  intro z;cases z
  ·exact⟨Sl.nil,rfl,by simp [Sl.nil]⟩
  ·exact Tl.add1 (s:=Sl.nil) (b:=0) (Nat.le_refl _) (by omega)
 have h2:∀z,Tl (Option.bind (bif z then((appC 24 (Sl.nil:Sl Z3) (⟨false,[(Z3.mk (6:Int) d)]⟩:Sl Z3)).bind fun x14=>some x14) else(some (Sl.nil:Sl Z3))) fun s9_4=>Option.bind (bif c then((appC 24 s9_4 (⟨false,[(Z3.mk (7:Int) d)]⟩:Sl Z3)).bind fun x10=>some x10) else(some s9_4)) fun s9_6=>some s9_6) 2:=by
  intro z;refine(h1 z).bind fun r hr=>?_;cases c
  ·exact⟨r,rfl,by omega⟩
  ·refine(Tl.add1 hr (by omega)).bind fun q hq=>⟨q,rfl,by omega⟩
 cases b
 ·simp only [guardO,Bool.not_false,if_true,hv,Option.bind_some]; exact h2 _
 ·exact h2 true
theorem Tl.appT {s:Sl Z3}{o:Option (Sl Z3)}{a b c:Nat}{k:Sl Z3->Option (Sl Z3)}(hs:s.l.length<=a) (h:Tl o b) (hb:a+b<=1000000000) (hk:∀r:Sl Z3,r.l.length<=a+b->Tl (k r) c):Tl (o.bind fun x=>(appC 24 s x).bind k) c:=by
 obtain⟨r,h1,h2⟩:=h;obtain⟨v,h3,h4⟩:=app24 (s:=s) (r:=r) (by omega);rw [h1,Option.bind_some,h3,Option.bind_some];exact hk v (by omega)
theorem inputs_loop (d:TDoc) (a1:Sl Z5) (p q:Bs) (hp:p.length<=10000000) (hq:q.length<=10):∀(l:List Z5) (i:Nat) (s:Sl Z3),(∀x∈l,x.FName.length<=1048576)->s.l.length+3*l.length<=900000000->Tl (Z90_q7 d a1 p q l i s) (s.l.length+3*l.length)
 | [],i,s,_,_=>⟨s,rfl,by simp⟩
 | x::l,i,s,hx,hs=>by
  have hn:=hx x (.head _);simp only [List.length_cons] at hs;rw [Z90_q7];simp only [Ab.on];rw [catC_ok (by omega),Option.bind_some,catC_ok (by simp; omega),Option.bind_some];refine Tl.appT (Nat.le_refl _) (names_tl _ _ _ _) (by omega) fun r hr=>?_;have key:∀(y:Z3),Tl (Option.bind ((appC 24 r (⟨false,[y]⟩:Sl Z3)).bind fun z=>some z) fun s9_15=>Z90_q7 d a1 p q l (i+1) s9_15) (s.l.length+3*(l.length+1)):=by
   intro y;refine(Tl.add1 hr (by omega)).bind fun v hv=>?_;exact(inputs_loop d a1 p q hp hq l (i+1) v (fun z hz=>hx z (.tail _ hz)) (by omega)).mono (by omega)
  rw [List.length_cons];cases Z91_q d x.FType.FName
  ·exact key _
  ·cases Z81_q d x.FType.FName
   ·exact key _
   ·exact(inputs_loop d a1 p q hp hq l (i+1) r (fun z hz=>hx z (.tail _ hz)) (by omega)).mono (by omega)
theorem inputs_tl (d:TDoc) (a1:Sl Z5) (p q:Bs) (hp:p.length<=10000000) (hq:q.length<=10) (h1:Sl.sz Z5.sz a1<=1048576):Tl (Z90_q d a1 p q) (3*a1.l.length):=by
 unfold Z90_q;have hl:=Sl.len_le (f:=Z5.sz) a1 (fun x=>Z5.pos x);have:=inputs_loop d a1 p q hp hq a1.l 0 Sl.nil (fun x hx=>by
  have h2:=Sl.mem_le (f:=Z5.sz) hx;have h3:=x.sz_def;have h4:x.FName.length<=Bs.sz x.FName:=Bs.len_le _;omega) (by simp [Sl.nil]; omega)
 obtain⟨r,h2,h3⟩:=this;rw [h2];exact⟨r,rfl,by simpa [Sl.nil] using h3⟩
theorem fields_loop (d:TDoc) (a1:TDef) (ha:a1.FName.length<=1048576):∀(l:List Z4) (i:Nat) (s:Sl Z3),(l.map Z4.sz).sum<=1048576->s.l.length+3*(l.map Z4.sz).sum<=900000000->Tl (Z88_q7 d a1 l i s) (s.l.length+3*(l.map Z4.sz).sum)
 | [],i,s,_,_=>⟨s,rfl,by simp⟩
 | x::l,i,s,hx,hs=>by
  simp only [List.map_cons,List.sum_cons] at hx hs;have h3:=x.sz_def;have h4:x.FName.length<=Bs.sz x.FName:=Bs.len_le _;have h5:=Sl.len_le (f:=Z5.sz) x.FArgs (fun x=>Z5.pos x);have h6:=Bs.sz_pos x.FName;rw [Z88_q7];simp only [Ab.on];rw [catC_ok (by simp; omega),Option.bind_some,catC_ok (by simp; omega),Option.bind_some];refine Tl.appT (Nat.le_refl _) (names_tl _ _ _ _) (by omega) fun r hr=>?_;have rest:∀v:Sl Z3,v.l.length<=s.l.length+3->Tl ((catC (a1.FName++[46]++x.FName) ([40]:Bs)).bind fun x31=>(Z90_q d x.FArgs x31 ([41]:Bs)).bind fun x32=>(appC 24 v x32).bind fun x33=>Z88_q7 d a1 l (i+1) x33) (s.l.length+3*(x.sz+(l.map Z4.sz).sum)):=by
   intro v hv;rw [catC_ok (by simp; omega),Option.bind_some];refine Tl.appT hv (inputs_tl d x.FArgs _ _ (by simp; omega) (by simp) (by omega)) (by omega) fun w hw=>?_;exact(fields_loop d a1 ha l (i+1) w (by omega) (by omega)).mono (by omega)
  have key:∀(y:Z3),Tl (Option.bind ((appC 24 r (⟨false,[y]⟩:Sl Z3)).bind fun z=>some z) fun s5_30=>(catC (a1.FName++[46]++x.FName) ([40]:Bs)).bind fun x31=>(Z90_q d x.FArgs x31 ([41]:Bs)).bind fun x32=>(appC 24 s5_30 x32).bind fun x33=>Z88_q7 d a1 l (i+1) x33) (s.l.length+3*(x.sz+(l.map Z4.sz).sum)):=by
   intro y;exact(Tl.add1 hr (by omega)).bind fun v hv=>rest v (by omega)
  simp only [List.map_cons,List.sum_cons];cases Z91_q d x.FType.FName
  ·exact key _
  ·cases hz:((!Z83_q x.FType.FName)&&(Z79_q d x.FType.FName).2)&&decide ((Z79_q d x.FType.FName).1.FKind=5)
   ·exact rest r (by omega)
   ·exact key _
theorem fields_tl (d:TDoc) (a1:TDef) (h:a1.sz<=1048576):Tl (Z88_q d a1) (3*a1.sz):=by
 unfold Z88_q;have h3:=a1.sz_def;have h4:a1.FName.length<=Bs.sz a1.FName:=Bs.len_le _;have h5:Sl.sz Z4.sz a1.FFields=1+(a1.FFields.l.map Z4.sz).sum:=rfl;obtain⟨r,h1,h2⟩:=fields_loop d a1 (by omega) a1.FFields.l 0 Sl.nil (by omega) (by simp [Sl.nil]; omega);rw [h1];exact⟨r,rfl,by simp [Sl.nil] at h2; omega⟩
theorem again_ok (a:TDef) (x:Z6):∀(n i:Nat) (b:Bool),i+n<=a.FMembers.l.length->∃v,Z92_q26 a x n i b=some v
 | 0,_,b,_=>⟨b,rfl⟩
 | n+1,i,b,h=>by
  rw [Z92_q26];cases b
  ·simp only [guardO,Bool.not_false,if_true];rw [List.getElem?_eq_getElem (show i<a.FMembers.l.length by omega),Option.bind_some];exact again_ok a x n (i+1) _ (by omega)
  ·simp only [guardO,Bool.not_true];exact again_ok a x n (i+1) _ (by omega)
theorem members_loop (a:TDef) (ha:a.FName.length<=1048576):∀(l:List Z6) (i:Nat) (s:Sl Z3),(∀x∈l,x.FName.length<=1048576)->i+l.length=a.FMembers.l.length->s.l.length+2*l.length<=900000000->Tl (Z92_q7 a l i s) (s.l.length+2*l.length)
 | [],i,s,_,_,_=>⟨s,rfl,by simp⟩
 | x::l,i,s,hx,hi,hs=>by
  have hn:=hx x (.head _);simp only [List.length_cons] at hs hi;rw [Z92_q7];simp only [Ab.on];obtain⟨v,hv⟩:=again_ok a x i 0 false (by omega);rw [hv,Option.bind_some,catC_ok (by simp; omega),Option.bind_some,catC_ok (by simp; omega),Option.bind_some];refine Tl.appT (Nat.le_refl _) (names_tl _ _ _ _) (by omega) fun r hr=>?_;exact(members_loop a ha l (i+1) r (fun z hz=>hx z (.tail _ hz)) (by omega) (by omega)).mono (by simp only [List.length_cons]; omega)
theorem members_tl (a:TDef) (h:a.sz<=1048576):Tl (Z92_q a) (3*a.sz):=by
 unfold Z92_q;have h3:=a.sz_def;have h4:a.FName.length<=Bs.sz a.FName:=Bs.len_le _;have h5:=Sl.len_le (f:=Z6.sz) a.FMembers (fun x=>Z6.pos x);obtain⟨r,h1,h2⟩:=members_loop a (by omega) a.FMembers.l 0 Sl.nil (fun x hx=>by
  have h6:=Sl.mem_le (f:=Z6.sz) hx;have h7:=x.sz_def;have h8:x.FName.length<=Bs.sz x.FName:=Bs.len_le _;omega) (by simp) (by simp [Sl.nil]; omega)
 rw [h1];exact⟨r,rfl,by simp [Sl.nil] at h2; omega⟩
def left (U s:List Bs):Nat:=(U.filter fun x=>!s.contains x).length
theorem left_add {U s:List Bs}{x:Bs}(hU:x∈U) (hs:s.contains x=false):left U (s++[x])+1<=left U s:=by
 have mono:∀l:List Bs,(l.filter fun y=>!(s++[x]).contains y).length<=(l.filter fun y=>!s.contains y).length:=by
  intro l;induction l with
  | nil=>simp
  | cons a r ih =>
   have ha:s.contains a=true->(s++[x]).contains a=true:=by
    intro h;simp only [List.contains_eq_mem,decide_eq_true_eq,List.mem_append] at h ⊢;exact .inl h
   cases h1:s.contains a
   ·cases h2:(s++[x]).contains a
    ·rw [List.filter_cons_of_pos (by rw [h2]; rfl),List.filter_cons_of_pos (by rw [h1]; rfl)];simp only [List.length_cons]; omega
    ·rw [List.filter_cons_of_neg (by rw [h2]; decide),List.filter_cons_of_pos (by rw [h1]; rfl)];simp only [List.length_cons]; omega
   ·rw [List.filter_cons_of_neg (by rw [ha h1]; decide),List.filter_cons_of_neg (by rw [h1]; decide)]; exact ih
 unfold left;obtain⟨a,b,rfl⟩:=List.append_of_mem hU;rw [List.filter_append,List.filter_append,List.length_append,List.length_append];have hx:(s++[x]).contains x=true:=by simp
 rw [List.filter_cons_of_neg (by rw [hx]; decide),List.filter_cons_of_pos (by rw [hs]; rfl)];have h1:=mono a;have h2:=mono b;simp only [List.length_cons]; omega
def inNames (d:TDef):List Bs:=d.FInputs.l.map fun x=>x.FType.FName
def docNames (d:TDoc):List Bs:=d.FDefs.l.flatMap inNames
theorem docNames_len (d:TDoc):(docNames d).length<=d.sz:=by
 have h1:=d.sz_def;have h2:Sl.sz TDef.sz d.FDefs=1+(d.FDefs.l.map TDef.sz).sum:=rfl;have:∀l:List TDef,(l.flatMap inNames).length<=(l.map TDef.sz).sum:=by
  intro l;induction l with
  | nil=>simp
  | cons a r ih =>
   have h3:=a.sz_def;have h5:=Sl.len_le (f:=Z5.sz) a.FInputs (fun x=>Z5.pos x);simp only [List.flatMap_cons,List.length_append,List.map_cons,List.sum_cons];have:(inNames a).length=a.FInputs.l.length:=by unfold inNames; rw [List.length_map]
   omega
 have:=this d.FDefs.l;unfold docNames; omega
theorem has_false:∀(l:List Bs) (x:Bs),(match Z89_q5 x l with|Sum.inl _=>false|Sum.inr e=>e)=l.contains x
 | [],_=>rfl
 | a::r,x=>by
  rw [Z89_q5,List.contains_cons];simp only [Ab.on];by_cases h:a=x
  ·subst h; simp
  ·have h2:(a==x)=false:=by simpa using h
   have h3:(x==a)=false:=by simpa using fun e=>h e.symm
   rw [h2,h3,cond_false,Bool.false_or]; exact has_false r x
theorem direct_ok (t:TRef):∃b,Z86_q t=some b:=by
 unfold Z86_q;by_cases h:t.FWraps.l.length=1
 ·rw [show decide (((t.FWraps.l.length:Nat):Int)=1)=true from decide_eq_true (by omega)];simp only [guardO,if_true];rw [List.getElem?_eq_getElem (show 0<t.FWraps.l.length by omega)];exact⟨_,rfl⟩
 ·rw [show decide (((t.FWraps.l.length:Nat):Int)=1)=false from decide_eq_false (by omega)];exact⟨_,rfl⟩
def Vs (U:List Bs) (M:Nat) (s:Sl Bs):Prop:=s.l.length+left U s.l<=M
theorem next_loop (d:TDoc) (c:Bs) (U:List Bs) (M:Nat) (hM:M<=2000000):∀(l:List Z5) (s:Sl Bs),(∀x∈l,x.FType.FName∈U)->Vs U M s->∃r,Z94_q6 d c l s=some r/\Vs U M r/\s.l.length<=r.l.length
 | [],s,_,h=>⟨s,rfl,h,Nat.le_refl _⟩
 | x::l,s,hx,h=>by
  have hn:=hx x (.head _);have hx':∀z∈l,z.FType.FName∈U:=fun z hz=>hx z (.tail _ hz);obtain⟨b,hb⟩:=direct_ok x.FType;rw [Z94_q6];simp only [Ab.on];rw [hb,Option.bind_some];generalize (b&&((x.FType.FName==c)||((Z79_q d x.FType.FName).2&&decide ((Z79_q d x.FType.FName).1.FKind=5))))=w;have hq:Z89_q s x.FType.FName=s.l.contains x.FType.FName:=by
   rw [<- has_false]; unfold Z89_q; simp only [Ab.on];all_goals (cases Z89_q5 x.FType.FName s.l<;>rfl)
  cases w
  ·exact next_loop d c U M hM l s hx' h
  ·rw [cond_true,hq];cases hc:s.l.contains x.FType.FName
   ·unfold Vs at h;have hl:=left_add hn hc;simp only [Bool.not_false,Bool.and_self,cond_true];rw [appC_ok (by decide) (by simp; omega),Option.bind_some,Option.bind_some];obtain⟨r,h1,h2,h3⟩:=next_loop d c U M hM l ⟨s.nl&&([x.FType.FName]:List Bs).isEmpty,s.l++[x.FType.FName]⟩ hx' (by unfold Vs; simp only [List.length_append,List.length_cons,List.length_nil]; omega);exact⟨r,h1,h2,by simp only [List.length_append,List.length_cons,List.length_nil] at h3; omega⟩
   ·exact next_loop d c U M hM l s hx' h
theorem find_in (d:TDoc) (n:Bs):(Z79_q d n).1∈d.FDefs.l\/(Z79_q d n).1.FInputs.l=[]:=by
 unfold Z79_q;simp only [Ab.on];have:∀l:List TDef,(match Z79_q6 n l with|Sum.inl _=>True|Sum.inr e=>e.1∈l):=by
  intro l;induction l with
  | nil=>exact trivial
  | cons a r ih =>
   rw [Z79_q6];simp only [Ab.on];cases hq:a.FName==n
   ·simp only [cond_false]
    revert ih
    cases Z79_q6 n r with
    | inl u=>intro _; exact trivial
    | inr e=>intro ih; exact .tail _ ih
   ·exact .head _
 have h:=this d.FDefs.l
 revert h
 cases Z79_q6 n d.FDefs.l with
 | inl u=>intro _; exact .inr rfl
 | inr e=>intro h; exact .inl h
theorem names_in {d:TDoc}{a:TDef}(h:a∈d.FDefs.l\/a.FInputs.l=[]):∀x∈a.FInputs.l,x.FType.FName∈docNames d:=by
 intro x hx;rcases h with h|h
 ·exact List.mem_flatMap.2 ⟨a,h,List.mem_map.2 ⟨x,hx,rfl⟩⟩
 ·rw [h] at hx; cases hx
theorem circ_loop (d:TDoc) (a:TDef) (hM:(docNames d).length<=1048576):∀(n i:Nat) (s:Sl Bs),Vs (docNames d) (docNames d).length s->i<=s.l.length->(docNames d).length+1<=n+i->∃b,Z85_l13 d a n s i=some b
 | 0,i,s,h,hi,hn=>by unfold Vs at h; omega
 | n+1,i,s,h,hi,hn=>by
  rw [Z85_l13];by_cases hlt:i<s.l.length
  ·rw [show decide (((i:Nat):Int)<((s.l.length:Nat):Int))=true from decide_eq_true (by omega),cond_true,List.getElem?_eq_getElem hlt,Option.bind_some,Z79_eq,Option.bind_some,Z94_eq];unfold Z94_q;obtain⟨r,h1,h2,h3⟩:=next_loop d a.FName (docNames d) (docNames d).length (by omega) _ s (names_in (find_in d s.l[i])) h;rw [h1,Option.bind_some];simp only [Ab.on,Option.bind_some];exact circ_loop d a hM n (i+1) r h2 (by omega) (by omega)
  ·rw [show decide (((i:Nat):Int)<((s.l.length:Nat):Int))=false from decide_eq_false (by omega),cond_false];unfold Z85_j8;rw [Z89_eq];exact⟨_,rfl⟩
theorem circular_ok {d:TDoc}(hd:d.sz<=1048576){a:TDef}(ha:a∈d.FDefs.l):∃b,Z85 d a=some b:=by
 have hM:=docNames_len d;unfold Z85;cases hk:(!decide (a.FKind=(5:Int)))
 ·rw [cond_false,Z94_eq];unfold Z94_q;have h0:Vs (docNames d) (docNames d).length Sl.nil:=by
   unfold Vs left;have:=List.length_filter_le (fun x=>!(Sl.nil:Sl Bs).l.contains x) (docNames d);simp only [Sl.nil,List.length_nil] at this ⊢; omega
  obtain⟨r,h1,h2,h3⟩:=next_loop d a.FName (docNames d) (docNames d).length (by omega) a.FInputs.l Sl.nil (names_in (.inl ha)) h0;rw [h1,Option.bind_some];simp only [Ab.on,Option.bind_some];exact circ_loop d a (by omega) F0 0 r h2 (by omega) (by rw [F0_eq]; omega)
 ·exact⟨false,rfl⟩
theorem j15_tl {s:Sl Z3}{b:Nat}(h:s.l.length<=b):Tl (Z95_j15 s) b:=⟨s,rfl,h⟩
theorem j13_tl {d:TDoc}(hd:d.sz<=1048576){a:TDef}(ha:a∈d.FDefs.l){s:Sl Z3}{b:Nat}(h:s.l.length<=b) (hb:b<=1000):Tl (Z95_j13 d a s) (b+1):=by
 unfold Z95_j13;obtain⟨v,hv⟩:=circular_ok hd ha;rw [hv,Option.bind_some];cases v
 ·exact(j15_tl h).mono (by omega)
 ·obtain⟨w,h1,h2⟩:=app24 (s:=s) (r:=⟨false,[Z3.mk (5:Int) a.FName]⟩) (by simp; omega);rw [cond_true,h1,Option.bind_some];exact j15_tl (by rw [h2]; simp; omega)
theorem j10_tl {d:TDoc}(hd:d.sz<=1048576){a:TDef}(ha:a∈d.FDefs.l){s:Sl Z3}{b:Nat}(h:s.l.length<=b) (hb:b<=900):Tl (Z95_j10 d a s) (b+2):=by
 unfold Z95_j10;generalize (((((((a.FName==([81,117,101,114,121]:Bs)))||((a.FName==([77,117,116,97,116,105,111,110]:Bs))))||((a.FName==([83,117,98,115,99,114,105,112,116,105,111,110]:Bs))))&&(!decide (a.FKind=(1:Int))))||(decide (a.FKind<(1:Int))))||(decide ((5:Int)<a.FKind)))=w;cases w
 ·exact(j13_tl hd ha h (by omega)).mono (by omega)
 ·obtain⟨w,h1,h2⟩:=app24 (s:=s) (r:=⟨false,[Z3.mk (9:Int) a.FName]⟩) (by simp; omega);rw [cond_true,h1,Option.bind_some];exact(j13_tl (b:=b+1) hd ha (by rw [h2]; simp; omega) (by omega)).mono (by omega)
theorem j6_tl {d:TDoc}(hd:d.sz<=1048576){a:TDef}(ha:a∈d.FDefs.l) (t:Bool):Tl (Z95_j6 d a t) 5:=by
 unfold Z95_j6;rw [Z93_eq];refine(names_tl _ _ _ _).bind fun r hr=>?_;rw [Z87_eq,Option.bind_some];cases Z87_q a
 ·exact(j10_tl hd ha hr (by omega)).mono (by omega)
 ·obtain⟨w,h1,h2⟩:=app24 (s:=r) (r:=⟨false,[Z3.mk (8:Int) a.FName]⟩) (by simp; omega);rw [cond_true,h1,Option.bind_some];exact j10_tl (b:=3) hd ha (by rw [h2]; simp; omega) (by omega)
theorem l30_tl {d:TDoc}(hd:d.sz<=1048576){a:TDef}(ha:a∈d.FDefs.l) (N:Nat) (hN:N<=d.FDefs.l.length) (hl:d.FDefs.l.length<=1048576):∀(n i:Nat) (t:Bool),i<=N->N-i<n->Tl (Z95_l30 d ((N:Nat):Int) a n t (i:Int)) 5
 | 0,_,_,_,h=>by omega
 | n+1,i,t,hi,hn=>by
  rw [Z95_l30];by_cases hlt:i<N
  ·have one:addC (i:Int) 1=some (((i+1:Nat)):Int):=by rw [addC_ok (by omega)]; rfl
   have hidx:idxC d.FDefs.l (i:Int)=some (d.FDefs.l[i]'(by omega)):=by
    unfold idxC; rw [if_pos (by omega),Int.toNat_natCast,List.getElem?_eq_getElem (show i<d.FDefs.l.length by omega)]
   rw [show decide ((i:Int)<((N:Nat):Int))=true from decide_eq_true (by omega),cond_true,one,hidx];cases t
   ·exact l30_tl hd ha N hN hl n (i+1) _ (by omega) (by omega)
   ·exact l30_tl hd ha N hN hl n (i+1) _ (by omega) (by omega)
  ·rw [show decide ((i:Int)<((N:Nat):Int))=false from decide_eq_false (by omega),cond_false];exact j6_tl hd ha t
theorem whole_tl {d:TDoc}(hd:d.sz<=1048576){i:Nat}(hi:i<d.FDefs.l.length):Tl (Z95_q d ((i:Nat):Int)) 5:=by
 have h1:=d.sz_def;have h2:=Sl.len_le (f:=TDef.sz) d.FDefs (fun x=>TDef.pos x);show Tl (Z95 d ((i:Nat):Int)) 5;unfold Z95;have hidx:idxC d.FDefs.l (i:Int)=some (d.FDefs.l[i]):=by
  unfold idxC; rw [if_pos (by omega),Int.toNat_natCast,List.getElem?_eq_getElem hi]
 rw [hidx,Option.bind_some,Z83_eq,Option.bind_some];exact l30_tl hd (List.getElem_mem hi) i (by omega) (by omega) F0 0 _ (by omega) (by rw [F0_eq]; omega)
theorem check_loop {d:TDoc}(hd:d.sz<=1048576):∀(l:List TDef) (i:Nat) (s:Sl Z3),d.FDefs.l.drop i=l->s.l.length+8*(l.map TDef.sz).sum<=900000000->Tl (Z77_q14 d l i s) (s.l.length+8*(l.map TDef.sz).sum)
 | [],i,s,_,_=>⟨s,rfl,by simp⟩
 | x::l,i,s,hl,hs=>by
  have hi:i<d.FDefs.l.length:=by
   have:=congrArg List.length hl;simp only [List.length_drop,List.length_cons] at this; omega
  have hx:x∈d.FDefs.l:=List.mem_of_mem_drop (i:=i) (by rw [hl]; exact .head _);have hd':d.FDefs.l.drop (i+1)=l:=by rw [<- List.drop_drop,hl]; rfl
  have h1:=Sl.mem_le (f:=TDef.sz) hx;have h2:=d.sz_def;have h3:=x.sz_def;have h4:=Bs.len_le x.FName;have h5:=Bs.sz_pos x.FName;have h6:=Sl.len_le (f:=Z5.sz) x.FInputs (fun x=>Z5.pos x);simp only [List.map_cons,List.sum_cons] at hs ⊢;rw [Z77_q14];simp only [Ab.on];refine Tl.appT (Nat.le_refl _) (whole_tl hd hi) (by omega) fun r hr=>?_;have rest:∀(o:Option (Sl Z3)),Tl o (s.l.length+5+3*x.sz)->Tl (o.bind fun v=>Z77_q14 d l (i+1) v) (s.l.length+8*(x.sz+(l.map TDef.sz).sum)):=by
   intro o ho;refine ho.bind fun v hv=>?_;exact(check_loop hd l (i+1) v hd' (by omega)).mono (by omega)
  have fin:∀{o:Option (Sl Z3)}{b:Nat},Tl o b->b<=3*x.sz->Tl (o.bind fun v=>(appC 24 r v).bind fun w=>some w) (s.l.length+5+3*x.sz):=by
   intro o b ho hb;exact Tl.appT hr ho (by omega) fun w hw=>⟨w,rfl,by omega⟩
  refine rest _ ?_;cases (bif decide (x.FKind=1) then decide (x.FKind=1) else decide (x.FKind=2))
  ·rw [cond_false];cases decide (x.FKind=4)
   ·rw [cond_false];cases decide (x.FKind=5)
    ·exact⟨r,rfl,by omega⟩
    ·rw [cond_true,catC_ok (by simp; omega),Option.bind_some];exact fin (inputs_tl d x.FInputs _ _ (by simp; omega) (by simp) (by omega)) (by omega)
   ·exact fin (members_tl x (by omega)) (by omega)
  ·exact fin (fields_tl d x (by omega)) (by omega)
theorem check_tl {d:TDoc}(hd:d.sz<=1048576) (b:Bool):Tl (Z77_q d b) 9000000:=by
 unfold Z77_q;have h2:=d.sz_def;have h3:Sl.sz TDef.sz d.FDefs=1+(d.FDefs.l.map TDef.sz).sum:=rfl;refine Tl.bind (a:=8*(d.FDefs.l.map TDef.sz).sum) ?_ fun r hr=>?_
 ·obtain⟨r,h4,h5⟩:=check_loop hd d.FDefs.l 0 Sl.nil rfl (by simp [Sl.nil]; omega);exact⟨r,h4,by simp [Sl.nil] at h5; omega⟩
 ·simp only [Ab.on];cases (b&&(!(Z79_q d ([81,117,101,114,121]:Bs)).2))
  ·exact⟨r,rfl,by omega⟩
  ·refine(Tl.add1 hr (by omega)).bind fun v hv=>⟨v,rfl,by omega⟩
end Go.Proofs

namespace Go.Proofs
open Go Go.Ab
theorem first_loop (d:TDoc) (N:Nat) (hN:N<d.FDefs.l.length) (hl:d.FDefs.l.length<=1048576):∀(n i:Nat),i<=N->N-i<n->∃b,Z101_l5 d ((N:Nat):Int) n (i:Int)=some b
 | 0,_,_,h=>by omega
 | n+1,i,hi,hn=>by
  rw [Z101_l5];by_cases hlt:i<N
  ·have one:addC (i:Int) 1=some (((i+1:Nat)):Int):=by rw [addC_ok (by omega)]; rfl
   have h1:idxC d.FDefs.l (i:Int)=some (d.FDefs.l[i]'(by omega)):=by
    unfold idxC; rw [if_pos (by omega),Int.toNat_natCast,List.getElem?_eq_getElem (show i<d.FDefs.l.length by omega)]
   have h2:idxC d.FDefs.l ((N:Nat):Int)=some (d.FDefs.l[N]):=by
    unfold idxC; rw [if_pos (by omega),Int.toNat_natCast,List.getElem?_eq_getElem hN]
   rw [show decide ((i:Int)<((N:Nat):Int))=true from decide_eq_true (by omega),cond_true,h1,h2,Option.bind_some,Option.bind_some,one];cases ((d.FDefs.l[i]'(by omega)).FName==(d.FDefs.l[N]).FName)
   ·exact first_loop d N hN hl n (i+1) (by omega) (by omega)
   ·exact⟨_,rfl⟩
  ·rw [show decide ((i:Int)<((N:Nat):Int))=false from decide_eq_false (by omega),cond_false];exact⟨_,rfl⟩
theorem first_ok {d:TDoc}(hl:d.FDefs.l.length<=1048576){i:Nat}(hi:i<d.FDefs.l.length):∃b,Z101_q d ((i:Nat):Int)=some b:=first_loop d i hi hl F0 0 (by omega) (by rw [F0_eq]; omega)
theorem possible_loop {d:TDoc}(hd:d.FDefs.l.length<=1048576) (n:Bs) (x:TDef×Bool):∀(l:List TDef) (i:Nat) (s:Sl Bs),d.FDefs.l.drop i=l->s.l.length+l.length<=4000000->Tl (Z98_q9 d n x l i s) (s.l.length+l.length)
 | [],i,s,_,_=>⟨s,rfl,by simp⟩
 | y::l,i,s,hl,hs=>by
  have hi:i<d.FDefs.l.length:=by
   have:=congrArg List.length hl;simp only [List.length_drop,List.length_cons] at this; omega
  have hd':d.FDefs.l.drop (i+1)=l:=by rw [<- List.drop_drop,hl]; rfl
  simp only [List.length_cons] at hs ⊢;rw [Z98_q9];cases x.2
  ·exact⟨s,rfl,by omega⟩
  ·rw [cond_true];simp only [Ab.on];have same:Tl (Z98_q9 d n x l (i+1) s) (s.l.length+(l.length+1)):=(possible_loop hd n x l (i+1) s hd' (by omega)).mono (by omega);have more:Tl (Option.bind ((appC 16 s (⟨false,[y.FName]⟩:Sl Bs)).bind fun x31=>some x31) fun v=>Z98_q9 d n x l (i+1) v) (s.l.length+(l.length+1)):=by
    rw [appC_ok (by decide) (by simp; omega),Option.bind_some,Option.bind_some];exact(possible_loop hd n x l (i+1) _ hd' (by simp; omega)).mono (by simp; omega)
   obtain⟨b,hb⟩:=first_ok hd hi;cases hk:decide (y.FKind=1)
   ·simp only [guardO,Bool.not_false,Bool.not_true,Bool.true_or,cond_true,Option.bind_some];exact same
   ·simp only [guardO,Bool.not_true,Bool.not_false,if_true,hb,Option.bind_some,Bool.false_or];cases b
    ·exact same
    ·simp only [Bool.not_true,cond_false];generalize ((((decide (x.1.FKind=(1:Int)))&&((y.FName==n)))||((decide (x.1.FKind=(2:Int)))&&_))||((decide (x.1.FKind=(3:Int)))&&_))=w;cases w
     ·exact same
     ·exact more
theorem possible_ok {d:TDoc}(hd:d.FDefs.l.length<=1048576) (n:Bs):Tl (Z98_q d n) d.FDefs.l.length:=by
 unfold Z98_q;simp only [Ab.on];obtain⟨r,h1,h2⟩:=possible_loop hd n (Z79_q d n) d.FDefs.l 0 Sl.nil rfl (by simp [Sl.nil]; omega);rw [h1];exact⟨r,rfl,by simpa [Sl.nil] using h2⟩
theorem is_ok {d:TDoc}(hd:d.FDefs.l.length<=1048576) (n m:Bs):∃b,Z97_q d n m=some b:=by
 unfold Z97_q;obtain⟨r,h1,-⟩:=possible_ok hd m;rw [h1]; exact⟨_,rfl⟩
end Go.Proofs

namespace Go.Proofs
open Go Go.Ab
def Sm (x:TDef):Prop:=x.FFields.l.length<=1000/\x.FMembers.l.length<=1000/\x.FImplements.l.length<=1000/\x.FInputs.l.length<=1000/\∀f∈x.FFields.l,f.FArgs.l.length<=1000
theorem cut11 {t:TRef}(h:t.FWraps.l.length<=1048576) (h1:1<=t.FWraps.l.length):Z62_q t=some ⟨t.FName,⟨false,t.FWraps.l.drop 1⟩⟩:=by
 unfold Z62_q;rw [partC_tail h1,Option.bind_some,appC_ok (by decide) (by simp; omega)];simp
theorem nullable11 {t:TRef}(h:t.FWraps.l.length<=1048576):∃u,Z58_q t=some u/\u.FWraps.l.length<=t.FWraps.l.length/\(Z57_q t=true->u.FWraps.l.length<t.FWraps.l.length):=by
 unfold Z58_q;simp only [Ab.on];cases hn:Z57_q t
 ·rw [cond_false,appC_ok (by decide) (by simp; omega)];exact⟨_,rfl,by simp,fun h=>by cases h⟩
 ·have h1:1<=t.FWraps.l.length:=by
   unfold Z57_q at hn;cases hw:t.FWraps.l with
   | nil=>rw [hw] at hn; cases hn
   | cons a r=>simp
  rw [cond_true,cut11 h h1];exact⟨_,rfl,by simp,fun _=>by simp; omega⟩
theorem inner11 {t:TRef}(h:t.FWraps.l.length<=1048576):∃u b,Z55_q t=some (u,b)/\(b=true->u.FWraps.l.length<t.FWraps.l.length):=by
 obtain⟨u,h1,h2,-⟩:=nullable11 h;unfold Z55_q Z56_q;rw [h1,Option.bind_some];simp only [Ab.on,Option.bind_some];cases hl:(decide ((0:Int)<((u.FWraps.l.length:Nat):Int))&&decide ((bif decide ((0:Int)<((u.FWraps.l.length:Nat):Int)) then(u.FWraps.l[0]?).getD 0 else 0)=2))
 ·exact⟨_,false,rfl,fun h=>by cases h⟩
 ·simp only [Bool.and_eq_true,decide_eq_true_eq] at hl;rw [Bool.not_true,cond_false,cut11 (by omega) (by omega),Option.bind_some];exact⟨_,true,rfl,fun _=>by simp; omega⟩
theorem sub_ok {d:TDoc}(hd:d.FDefs.l.length<=1048576):∀(n:Nat) (a b:TRef),a.FWraps.l.length<n->a.FWraps.l.length<=1048576->b.FWraps.l.length<=1048576->∃v,Z99_qn n d a b=some v
 | 0,_,_,h,_,_=>by omega
 | n+1,a,b,hn,ha,hb=>by
  rw [Z99_qn];simp only [Ab.on];obtain⟨u,u1,u2,u3⟩:=nullable11 ha;obtain⟨w,w1,w2,w3⟩:=nullable11 hb;cases hbn:Z57_q b
  ·rw [cond_false];cases han:Z57_q a
   ·rw [cond_false];obtain⟨p,x,p1,p2⟩:=inner11 ha;obtain⟨q,y,q1,q2⟩:=inner11 hb;rw [p1,q1,Option.bind_some,Option.bind_some];obtain⟨z,hz⟩:=is_ok hd a.FName b.FName;cases x
    ·cases y
     ·simp only [Bool.false_and,cond_false,Bool.not_false,Bool.true_and,Bool.and_self];cases (a.FName==b.FName)
      ·simp only [guardO,Bool.not_false,if_true,hz,Option.bind_some]; exact⟨_,rfl⟩
      ·exact⟨_,rfl⟩
     ·exact⟨_,rfl⟩
    ·cases y
     ·exact⟨_,rfl⟩
     ·have hq:=q2 rfl;have hp:=p2 rfl;obtain⟨v,hv⟩:=sub_ok hd n p q (by omega) (by omega) (by omega);simp only [Bool.and_self,cond_true,hv,Option.bind_some];exact⟨_,rfl⟩
   ·rw [cond_true,u1,Option.bind_some];obtain⟨v,hv⟩:=sub_ok hd n u b (by have:=u3 han; omega) (by omega) hb;rw [hv]; exact⟨_,rfl⟩
  ·rw [cond_true];cases han:Z57_q a
   ·exact⟨_,rfl⟩
   ·obtain⟨v,hv⟩:=sub_ok hd n u w (by have:=u3 han; omega) (by omega) (by omega);simp only [guardO,if_true,u1,w1,hv,Option.bind_some];exact⟨_,rfl⟩
theorem same11_ok (a b:TRef):∃v,Z61_q a b=some v:=by
 have loop:∀(c:Sl Int) (l:List Int) (i:Nat),l.length+i<=c.l.length->∃o,Z63_q11 c l i=some o:=by
  intro c l;induction l with
  | nil=>intro i _; exact⟨_,rfl⟩
  | cons x r ih =>
   intro i h;simp only [List.length_cons] at h;rw [Z63_q11];simp only [Ab.on];rw [List.getElem?_eq_getElem (show i<c.l.length by omega),Option.bind_some];cases (!decide (x=c.l[i]'(by omega)))
   ·exact ih (i+1) (by omega)
   ·exact⟨_,rfl⟩
 have h2:∃v,Z63_q a.FWraps b.FWraps=some v:=by
  unfold Z63_q;by_cases h:a.FWraps.l.length=b.FWraps.l.length
  ·rw [show (!decide (((a.FWraps.l.length:Nat):Int)=((b.FWraps.l.length:Nat):Int)))=false by rw [decide_eq_true (show ((a.FWraps.l.length:Nat):Int)=((b.FWraps.l.length:Nat):Int) by omega)]; rfl,cond_false];obtain⟨o,ho⟩:=loop b.FWraps a.FWraps.l 0 (by omega);rw [ho];cases o<;>exact⟨_,rfl⟩
  ·rw [show (!decide (((a.FWraps.l.length:Nat):Int)=((b.FWraps.l.length:Nat):Int)))=true by rw [decide_eq_false (show ¬((a.FWraps.l.length:Nat):Int)=((b.FWraps.l.length:Nat):Int) by omega)]; rfl];exact⟨_,rfl⟩
 obtain⟨v,hv⟩:=h2;unfold Z61_q;cases (a.FName==b.FName)
 ·exact⟨_,rfl⟩
 ·simp only [guardO,if_true,hv]; exact⟨_,rfl⟩
end Go.Proofs
