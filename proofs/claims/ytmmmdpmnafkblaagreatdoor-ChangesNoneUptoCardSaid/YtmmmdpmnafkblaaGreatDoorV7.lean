import Derived.Test.YtmmmdpmnafkblaaGreatDoorV6
set_option maxRecDepth 100000
set_option maxHeartbeats 2000000
set_option linter.unusedVariables false
set_option linter.unusedSimpArgs false
namespace Go.Proofs
open Go Go.Ab
def Z66_q10 (a1:Bool):List Z6->Option (Unit ⊕ Bool)
 | []=>some (Sum.inl ())
 | h10::r10=>on (h10) fun x18=>on (Z34_q x18.FName) fun x19=>on (bif !(!x19) then h10 else Z6.zero) fun x20=>guardO (!(!x19)) (Z63_q x20.FDirs) false fun x21=>on (bif (!((!x19)||(!x21))&&a1) then h10 else Z6.zero) fun x22=>bif (((!x19)||(!x21))||(a1&&(decide ((0:Int)<((x22.FDirs.l.length:Nat):Int))))) then(some (Sum.inr false)) else(Z66_q10 a1 (r10) )
theorem Z66_l10_qe {a0:(Sl Z6)}{a1:Bool}  (Kb10:(Unit ⊕ Bool)->Option Bool) (hend:∀(n10:Nat) (s5_11:Nat),Z66_j7   =Kb10 (Sum.inl ())) (hret:∀e:Bool,some e=Kb10 (Sum.inr e)):∀(n10:Nat) (s5_11:Nat),(0<n10/\a0.l.length<s5_11+n10)->Z66_l10 a0 a1 n10 s5_11=Option.bind (Z66_q10 a1 (a0.l.drop s5_11) ) Kb10:=by
 intro n10;induction n10 with
 | zero=>intro s5_11 hn; exact absurd hn.1 (by omega)
 | succ n10 ih10 =>
  intro s5_11 hn;rw [Z66_l10];by_cases hlt:s5_11<a0.l.length
  ·obtain⟨h10,hh10⟩:=Qa hlt;rw [Q.drop_of hh10,Z66_q10];refine QT hlt ?_;refine Q.bindPO hh10 fun x18 hx_x18=>?_;refine Q.bindPO (Z34_eq _) fun x19 hx_x19=>?_;refine Q.guardPO hh10 fun x20 hx_x20=>?_;refine Q.guardOO (Z63_eq _) fun x21=>?_;refine Q.guardPO hh10 fun x22 hx_x22=>?_;refine Q.condO ?_ ?_
   ·all_goals exact hret _
   all_goals exact ih10 _ ⟨by omega,by omega⟩
  rw [dL (by omega),Z66_q10];refine QF hlt ?_;exact hend n10 s5_11
def Z66_q (a0:(Sl Z6)) (a1:Bool):Option Bool:=bif ((decide (((a0.l.length:Nat):Int)<(1:Int)))||(decide ((64:Int)<((a0.l.length:Nat):Int)))) then(some false) else(Option.bind (Z66_q10 a1 a0.l ) fun o10=>match o10 with|Sum.inl _=>(on (()) fun _=>some true)|Sum.inr e10=>(some e10))
theorem Z66_eq (a0:(Sl Z6)) (a1:Bool):Z66 a0 a1=Z66_q a0 a1:=by
 unfold Z66 Z66_q;refine Qs ?_;refine Q.condO ?_ ?_
 ·all_goals rfl
 refine Q.wrapOO fun Kb10 hKb10=>?_;refine Z66_l10_qe  Kb10 ?_ ?_ _ _ ⟨Nat.succ_pos _,by omega⟩
 ·intro n10 s5_11;refine Qe (hKb10 _) ?_;try dsimp only
  refine Q.wrapPO fun Kj7 hKj7=>?_;have hj7:Z66_j7  =Kj7 ():=by
   refine Qe (hKj7 _) ?_;unfold Z66_j7;all_goals rfl
  all_goals exact hj7
 intro e10;refine Qe (hKb10 _) ?_;try dsimp only
 all_goals rfl
def Z62_q34 :List Bs->Unit ⊕ Bool
 | []=>Sum.inl ()
 | h34::r34=>on (h34) fun x42=>on (Z34_q x42) fun x43=>bif (!x43) then(Sum.inr false) else(Z62_q34  (r34) )
theorem Z62_l34_qe {a0:TDef}  (Kb34:(Unit ⊕ Bool)->Option Bool) (hend:∀(n34:Nat) (s3_35:Nat),Z62_j8 a0  =Kb34 (Sum.inl ())) (hret:∀e:Bool,some e=Kb34 (Sum.inr e)):∀(n34:Nat) (s3_35:Nat),(0<n34/\a0.FImplements.l.length<s3_35+n34)->Z62_l34 a0 n34 s3_35=Kb34 (Z62_q34  (a0.FImplements.l.drop s3_35) ):=by
 intro n34;induction n34 with
 | zero=>intro s3_35 hn; exact absurd hn.1 (by omega)
 | succ n34 ih34 =>
  intro s3_35 hn;rw [Z62_l34];by_cases hlt:s3_35<a0.FImplements.l.length
  ·obtain⟨h34,hh34⟩:=Qa hlt;rw [Q.drop_of hh34,Z62_q34];refine QT hlt ?_;refine Q.bindP hh34 fun x42 hx_x42=>?_;refine Q.bindP (Z34_eq _) fun x43 hx_x43=>?_;refine Q.condP ?_ ?_
   ·all_goals exact hret _
   all_goals exact ih34 _ ⟨by omega,by omega⟩
  rw [dL (by omega),Z62_q34];refine QF hlt ?_;exact hend n34 s3_35
def Z62_q (a0:TDef):Option Bool:=on (Z34_q a0.FName) fun x4=>guardO (!(!x4)) (Z63_q a0.FDirs) false fun x5=>bif (((!x4)||(!x5))||(decide ((64:Int)<((a0.FImplements.l.length:Nat):Int)))) then(some false) else(on (Z62_q34  a0.FImplements.l ) fun o34=>match o34 with|Sum.inl _=>(on (()) fun _=>bif (decide (a0.FKind=(1:Int))) then((Z64_q a0.FFields).bind fun x15=>some ((x15&&(decide (((a0.FMembers.l.length:Nat):Int)=(0:Int))))&&(decide (((a0.FInputs.l.length:Nat):Int)=(0:Int))))) else(bif (decide (a0.FKind=(2:Int))) then(guardO ((decide (((a0.FImplements.l.length:Nat):Int)=(0:Int)))) (Z64_q a0.FFields) false fun x19=>some ((((decide (((a0.FImplements.l.length:Nat):Int)=(0:Int)))&&x19)&&(decide (((a0.FMembers.l.length:Nat):Int)=(0:Int))))&&(decide (((a0.FInputs.l.length:Nat):Int)=(0:Int))))) else(bif (decide (a0.FKind=(3:Int))) then(guardO (((decide (((a0.FImplements.l.length:Nat):Int)=(0:Int)))&&(decide (((a0.FFields.l.length:Nat):Int)=(0:Int))))) (Z66_q a0.FMembers true) false fun x23=>some ((((decide (((a0.FImplements.l.length:Nat):Int)=(0:Int)))&&(decide (((a0.FFields.l.length:Nat):Int)=(0:Int))))&&x23)&&(decide (((a0.FInputs.l.length:Nat):Int)=(0:Int))))) else(bif (decide (a0.FKind=(4:Int))) then(guardO (((decide (((a0.FImplements.l.length:Nat):Int)=(0:Int)))&&(decide (((a0.FFields.l.length:Nat):Int)=(0:Int))))) (Z66_q a0.FMembers false) false fun x27=>some ((((decide (((a0.FImplements.l.length:Nat):Int)=(0:Int)))&&(decide (((a0.FFields.l.length:Nat):Int)=(0:Int))))&&x27)&&(decide (((a0.FInputs.l.length:Nat):Int)=(0:Int))))) else(bif (decide (a0.FKind=(5:Int))) then(guardO (((((decide (((a0.FImplements.l.length:Nat):Int)=(0:Int)))&&(decide (((a0.FFields.l.length:Nat):Int)=(0:Int))))&&(decide (((a0.FMembers.l.length:Nat):Int)=(0:Int))))&&(decide ((0:Int)<((a0.FInputs.l.length:Nat):Int))))) (Z65_q a0.FInputs) false fun x31=>some (((((decide (((a0.FImplements.l.length:Nat):Int)=(0:Int)))&&(decide (((a0.FFields.l.length:Nat):Int)=(0:Int))))&&(decide (((a0.FMembers.l.length:Nat):Int)=(0:Int))))&&(decide ((0:Int)<((a0.FInputs.l.length:Nat):Int))))&&x31)) else(some false))))))|Sum.inr e34=>(some e34))
theorem Z62_eq (a0:TDef):Z62 a0=Z62_q a0:=by
 unfold Z62 Z62_q;refine Qs ?_;refine Q.bindPO (Z34_eq _) fun x4 hx_x4=>?_;refine Q.guardOO (Z63_eq _) fun x5=>?_;refine Q.condO ?_ ?_
 ·all_goals rfl
 refine Q.wrapPO fun Kb34 hKb34=>?_;refine Z62_l34_qe  Kb34 ?_ ?_ _ _ ⟨Nat.succ_pos _,by omega⟩
 ·intro n34 s3_35;refine Qe (hKb34 _) ?_;try dsimp only
  refine Q.wrapPO fun Kj8 hKj8=>?_;have hj8:Z62_j8 a0 =Kj8 ():=by
   refine Qe (hKj8 _) ?_;unfold Z62_j8;refine Q.condO ?_ ?_
   ·refine Q.bindO (Z64_eq _) fun x15=>?_;all_goals rfl
   refine Q.condO ?_ ?_
   ·refine Q.guardOO (Z64_eq _) fun x19=>?_;all_goals rfl
   refine Q.condO ?_ ?_
   ·refine Q.guardOO (Z66_eq _ _) fun x23=>?_;all_goals rfl
   refine Q.condO ?_ ?_
   ·refine Q.guardOO (Z66_eq _ _) fun x27=>?_;all_goals rfl
   refine Q.condO ?_ ?_
   ·refine Q.guardOO (Z65_eq _) fun x31=>?_;all_goals rfl
   all_goals rfl
  all_goals exact hj8
 intro e34;refine Qe (hKb34 _) ?_;try dsimp only
 all_goals rfl
def Z59_q10 :List TDef->Option (Unit ⊕ Bool)
 | []=>some (Sum.inl ())
 | h10::r10=>on (h10) fun x18=>(Z62_q x18).bind fun x19=>bif (!x19) then(some (Sum.inr false)) else(Z59_q10  (r10) )
theorem Z59_l10_qe {a0:TDoc}  (Kb10:(Unit ⊕ Bool)->Option Bool) (hend:∀(n10:Nat) (s3_11:Nat),Z59_j7   =Kb10 (Sum.inl ())) (hret:∀e:Bool,some e=Kb10 (Sum.inr e)):∀(n10:Nat) (s3_11:Nat),(0<n10/\a0.FDefs.l.length<s3_11+n10)->Z59_l10 a0 n10 s3_11=Option.bind (Z59_q10  (a0.FDefs.l.drop s3_11) ) Kb10:=by
 intro n10;induction n10 with
 | zero=>intro s3_11 hn; exact absurd hn.1 (by omega)
 | succ n10 ih10 =>
  intro s3_11 hn;rw [Z59_l10];by_cases hlt:s3_11<a0.FDefs.l.length
  ·obtain⟨h10,hh10⟩:=Qa hlt;rw [Q.drop_of hh10,Z59_q10];refine QT hlt ?_;refine Q.bindPO hh10 fun x18 hx_x18=>?_;refine Q.bindO (Z62_eq _) fun x19=>?_;refine Q.condO ?_ ?_
   ·all_goals exact hret _
   all_goals exact ih10 _ ⟨by omega,by omega⟩
  rw [dL (by omega),Z59_q10];refine QF hlt ?_;exact hend n10 s3_11
def Z59_q (a0:TDoc):Option Bool:=bif ((decide (((a0.FDefs.l.length:Nat):Int)<(1:Int)))||(decide ((64:Int)<((a0.FDefs.l.length:Nat):Int)))) then(some false) else(Option.bind (Z59_q10  a0.FDefs.l ) fun o10=>match o10 with|Sum.inl _=>(on (()) fun _=>some true)|Sum.inr e10=>(some e10))
theorem Z59_eq (a0:TDoc):Z59 a0=Z59_q a0:=by
 unfold Z59 Z59_q;refine Qs ?_;refine Q.condO ?_ ?_
 ·all_goals rfl
 refine Q.wrapOO fun Kb10 hKb10=>?_;refine Z59_l10_qe  Kb10 ?_ ?_ _ _ ⟨Nat.succ_pos _,by omega⟩
 ·intro n10 s3_11;refine Qe (hKb10 _) ?_;try dsimp only
  refine Q.wrapPO fun Kj7 hKj7=>?_;have hj7:Z59_j7  =Kj7 ():=by
   refine Qe (hKj7 _) ?_;unfold Z59_j7;all_goals rfl
  all_goals exact hj7
 intro e10;refine Qe (hKb10 _) ?_;try dsimp only
 all_goals rfl
def Z88_q (a0:Bs):Bool:=(((((a0==([73,110,116]:Bs)))||((a0==([83,116,114,105,110,103]:Bs))))||((a0==([66,111,111,108,101,97,110]:Bs))))||((a0==([73,68]:Bs))))
theorem Z88_eq (a0:Bs):Z88 a0=some (Z88_q a0):=by
 unfold Z88 Z88_q;all_goals rfl
def Z35_q (a0:Bs):Option Bool:=guardO ((decide ((2:Int)<=((a0.length:Nat):Int)))) (a0[0]?) (0:UInt8) fun x4=>guardO (((decide ((2:Int)<=((a0.length:Nat):Int)))&&(decide (((x4.toNat:Nat):Int)=(95:Int))))) (a0[1]?) (0:UInt8) fun x5=>some (((decide ((2:Int)<=((a0.length:Nat):Int)))&&(decide (((x4.toNat:Nat):Int)=(95:Int))))&&(decide (((x5.toNat:Nat):Int)=(95:Int))))
theorem Z35_eq (a0:Bs):Z35 a0=Z35_q a0:=by
 unfold Z35 Z35_q;refine Qs ?_;refine Q.guardOO rfl fun x4=>?_;refine Q.guardOO rfl fun x5=>?_;all_goals rfl
def Z89_q (a0:Bs):Option Bool:=on (Z34_q a0) fun x3=>guardO (x3) (Z35_q a0) false fun x4=>some (x3&&(!x4))
theorem Z89_eq (a0:Bs):Z89 a0=Z89_q a0:=by
 unfold Z89 Z89_q;refine Qs ?_;refine Q.bindPO (Z34_eq _) fun x3 hx_x3=>?_;refine Q.guardOO (Z35_eq _) fun x4=>?_;all_goals rfl
def Z98_q (a0:Bs) (a1:Bool) (a2:Bool) (a3:Bs):Option (Sl Z3):=guardO (!a1) (Z89_q a0) false fun x12=>Option.bind (bif (a1||(!x12)) then((appC 24 (Sl.nil:Sl Z3) (⟨false,[(Z3.mk (6:Int) a3)]⟩:Sl Z3)).bind fun x14=>some x14) else(some (Sl.nil:Sl Z3))) fun s9_4=>Option.bind (bif a2 then((appC 24 s9_4 (⟨false,[(Z3.mk (7:Int) a3)]⟩:Sl Z3)).bind fun x10=>some x10) else(some s9_4)) fun s9_6=>some s9_6
theorem Z98_eq (a0:Bs) (a1:Bool) (a2:Bool) (a3:Bs):Z98 a0 a1 a2 a3=Z98_q a0 a1 a2 a3:=by
 unfold Z98 Z98_q;refine Qs ?_;refine Q.guardOO (Z89_eq _) fun x12=>?_;refine Q.wrapOO fun Kj3 hKj3=>?_;have hj3:∀(s9_4:(Sl Z3)),Z98_j3 a2 a3 s9_4=Kj3 s9_4:=by
  intro s9_4;refine Qe (hKj3 _) ?_;unfold Z98_j3;refine Q.wrapOO fun Kj5 hKj5=>?_;have hj5:∀(s9_6:(Sl Z3)),Z98_j5  s9_6=Kj5 s9_6:=by
   intro s9_6;refine Qe (hKj5 _) ?_;unfold Z98_j5;all_goals rfl
  refine Q.condO ?_ ?_
  ·refine Q.bindO rfl fun x10=>?_;all_goals exact hj5 _
  all_goals exact hj5 _
 refine Q.condO ?_ ?_
 ·refine Q.bindO rfl fun x14=>?_;all_goals exact hj3 _
 all_goals exact hj3 _
def Z92_q (a0:TDef):Bool:=on (bif (decide (a0.FKind=(1:Int))) then((decide (a0.FKind=(1:Int)))) else((decide (a0.FKind=(2:Int))))) fun s5_6=>bif s5_6 then((decide (((a0.FFields.l.length:Nat):Int)=(0:Int)))) else(on (bif (decide (a0.FKind=(3:Int))) then((decide (a0.FKind=(3:Int)))) else((decide (a0.FKind=(4:Int))))) fun s12_11=>bif s12_11 then((decide (((a0.FMembers.l.length:Nat):Int)=(0:Int)))) else(bif (decide (a0.FKind=(5:Int))) then((decide (((a0.FInputs.l.length:Nat):Int)=(0:Int)))) else(on (()) fun _=>false)))
theorem Z92_eq (a0:TDef):Z92 a0=some (Z92_q a0):=by
 unfold Z92 Z92_q;refine Q.wrapPP fun Kj5 hKj5=>?_;have hj5:∀(s5_6:Bool),Z92_j5 a0 s5_6=Kj5 s5_6:=by
  intro s5_6;refine Qe (hKj5 _) ?_;unfold Z92_j5;refine Q.condP ?_ ?_
  ·all_goals rfl
  refine Q.wrapPP fun Kj10 hKj10=>?_;have hj10:∀(s12_11:Bool),Z92_j10 a0 s12_11=Kj10 s12_11:=by
   intro s12_11;refine Qe (hKj10 _) ?_;unfold Z92_j10;refine Q.condP ?_ ?_
   ·all_goals rfl
   refine Q.condP ?_ ?_
   ·all_goals rfl
   refine Q.wrapPP fun Kj2 hKj2=>?_;have hj2:Z92_j2  =Kj2 ():=by
    refine Qe (hKj2 _) ?_;unfold Z92_j2;all_goals rfl
   all_goals exact hj2
  refine Q.condP ?_ ?_
  ·all_goals exact hj10 _
  all_goals exact hj10 _
 refine Q.condP ?_ ?_
 ·all_goals exact hj5 _
 all_goals exact hj5 _
def Z84_q6 (a1:Bs):List TDef->Unit ⊕ ((TDef×Bool))
 | []=>Sum.inl ()
 | h6::r6=>on (h6) fun x15=>bif ((x15.FName==a1)) then(on (h6) fun x18=>Sum.inr (x18,true)) else(Z84_q6 a1 (r6) )
theorem Z84_l6_qe {a0:TDoc}{a1:Bs}  (Kb6:(Unit ⊕ ((TDef×Bool)))->Option (TDef×Bool)) (hend:∀(n6:Nat) (s6_7:Nat) (y8_l0:TDef),Z84_j2   y8_l0=Kb6 (Sum.inl ())) (hret:∀e:(TDef×Bool),some e=Kb6 (Sum.inr e)):∀(n6:Nat) (s6_7:Nat) (y8_l0:TDef),(0<n6/\a0.FDefs.l.length<s6_7+n6)->Z84_l6 a0 a1 n6 s6_7 y8_l0=Kb6 (Z84_q6 a1 (a0.FDefs.l.drop s6_7) ):=by
 intro n6;induction n6 with
 | zero=>intro s6_7 y8_l0 hn; exact absurd hn.1 (by omega)
 | succ n6 ih6 =>
  intro s6_7 y8_l0 hn;rw [Z84_l6];by_cases hlt:s6_7<a0.FDefs.l.length
  ·obtain⟨h6,hh6⟩:=Qa hlt;rw [Q.drop_of hh6,Z84_q6];refine QT hlt ?_;refine Q.bindP hh6 fun x15 hx_x15=>?_;refine Q.condP ?_ ?_
   ·refine Q.bindP hh6 fun x18 hx_x18=>?_;all_goals exact hret _
   all_goals exact ih6 _ _ ⟨by omega,by omega⟩
  rw [dL (by omega),Z84_q6];refine QF hlt ?_;exact hend n6 s6_7 y8_l0
def Z84_q (a0:TDoc) (a1:Bs):(TDef×Bool):=on (Z84_q6 a1 a0.FDefs.l ) fun o6=>match o6 with|Sum.inl _=>(on (()) fun _=>((TDef.mk (0:Int) ([]:Bs) (Sl.nil:Sl Bs) (Sl.nil:Sl TDir) (Sl.nil:Sl Z4) (Sl.nil:Sl Z6) (Sl.nil:Sl Z5)),false))|Sum.inr e6=>(e6)
theorem Z84_eq (a0:TDoc) (a1:Bs):Z84 a0 a1=some (Z84_q a0 a1):=by
 unfold Z84 Z84_q;refine Q.wrapPP fun Kb6 hKb6=>?_;refine Z84_l6_qe  Kb6 ?_ ?_ _ _ _ ⟨Nat.succ_pos _,by omega⟩
 ·intro n6 s6_7 y8_l0;refine Qe (hKb6 _) ?_;try dsimp only
  refine Q.wrapPP fun Kj2 hKj2=>?_;have hj2:∀(y3_l0:TDef),Z84_j2  y3_l0=Kj2 ():=by
   intro y3_l0;refine Qe (hKj2 _) ?_;unfold Z84_j2;all_goals rfl
  all_goals exact hj2 _
 intro e6;refine Qe (hKb6 _) ?_;try dsimp only
 all_goals rfl
def Z94_q5 (a1:Bs):List Bs->Unit ⊕ Bool
 | []=>Sum.inl ()
 | h5::r5=>on (h5) fun x13=>bif ((x13==a1)) then(Sum.inr true) else(Z94_q5 a1 (r5) )
theorem Z94_l5_qe {a0:(Sl Bs)}{a1:Bs}  (Kb5:(Unit ⊕ Bool)->Option Bool) (hend:∀(n5:Nat) (s5_6:Nat),Z94_j2   =Kb5 (Sum.inl ())) (hret:∀e:Bool,some e=Kb5 (Sum.inr e)):∀(n5:Nat) (s5_6:Nat),(0<n5/\a0.l.length<s5_6+n5)->Z94_l5 a0 a1 n5 s5_6=Kb5 (Z94_q5 a1 (a0.l.drop s5_6) ):=by
 intro n5;induction n5 with
 | zero=>intro s5_6 hn; exact absurd hn.1 (by omega)
 | succ n5 ih5 =>
  intro s5_6 hn;rw [Z94_l5];by_cases hlt:s5_6<a0.l.length
  ·obtain⟨h5,hh5⟩:=Qa hlt;rw [Q.drop_of hh5,Z94_q5];refine QT hlt ?_;refine Q.bindP hh5 fun x13 hx_x13=>?_;refine Q.condP ?_ ?_
   ·all_goals exact hret _
   all_goals exact ih5 _ ⟨by omega,by omega⟩
  rw [dL (by omega),Z94_q5];refine QF hlt ?_;exact hend n5 s5_6
def Z94_q (a0:(Sl Bs)) (a1:Bs):Bool:=on (Z94_q5 a1 a0.l ) fun o5=>match o5 with|Sum.inl _=>(on (()) fun _=>false)|Sum.inr e5=>(e5)
theorem Z94_eq (a0:(Sl Bs)) (a1:Bs):Z94 a0 a1=some (Z94_q a0 a1):=by
 unfold Z94 Z94_q;refine Q.wrapPP fun Kb5 hKb5=>?_;refine Z94_l5_qe  Kb5 ?_ ?_ _ _ ⟨Nat.succ_pos _,by omega⟩
 ·intro n5 s5_6;refine Qe (hKb5 _) ?_;try dsimp only
  refine Q.wrapPP fun Kj2 hKj2=>?_;have hj2:Z94_j2  =Kj2 ():=by
   refine Qe (hKj2 _) ?_;unfold Z94_j2;all_goals rfl
  all_goals exact hj2
 intro e5;refine Qe (hKb5 _) ?_;try dsimp only
 all_goals rfl
def Z91_q (a0:TRef):Option Bool:=guardO ((decide (((a0.FWraps.l.length:Nat):Int)=(1:Int)))) (a0.FWraps.l[0]?) (0:Int) fun x4=>some ((decide (((a0.FWraps.l.length:Nat):Int)=(1:Int)))&&(decide (x4=(1:Int))))
theorem Z91_eq (a0:TRef):Z91 a0=Z91_q a0:=by
 unfold Z91 Z91_q;refine Qs ?_;refine Q.guardOO rfl fun x4=>?_;all_goals rfl
def Z99_q6 (a0:TDoc) (a2:Bs):List Z5->(Sl Bs)->Option ((Sl Bs))
 | [],s3_7=>some s3_7
 | h6::r6,s3_7=>on (h6) fun x16=>on (Z84_q a0 x16.FType.FName) fun x18=>(Z91_q x16.FType).bind fun x20=>on (bif (x20&&(((x16.FType.FName==a2))||(x18.2&&(decide (x18.1.FKind=(5:Int)))))) then Z94_q s3_7 x16.FType.FName else false) fun x21=>Option.bind (bif ((x20&&(((x16.FType.FName==a2))||(x18.2&&(decide (x18.1.FKind=(5:Int))))))&&(!x21)) then((appC 16 s3_7 (⟨false,[x16.FType.FName]⟩:Sl Bs)).bind fun x23=>some x23) else(some s3_7)) fun s3_14=>Z99_q6 a0 a2 (r6) s3_14
theorem Z99_l6_qe {a0:TDoc}{a1:TDef}{a2:Bs}  (Kb6:((Sl Bs))->Option (Sl Bs)) (hend:∀(n6:Nat) (s3_7:(Sl Bs)) (s9_8:Nat),Z99_j2   s3_7=Kb6 s3_7):∀(n6:Nat) (s3_7:(Sl Bs)) (s9_8:Nat),(0<n6/\a1.FInputs.l.length<s9_8+n6)->Z99_l6 a0 a1 a2 n6 s3_7 s9_8=Option.bind (Z99_q6 a0 a2 (a1.FInputs.l.drop s9_8) s3_7) Kb6:=by
 intro n6;induction n6 with
 | zero=>intro s3_7 s9_8 hn; exact absurd hn.1 (by omega)
 | succ n6 ih6 =>
  intro s3_7 s9_8 hn;rw [Z99_l6];by_cases hlt:s9_8<a1.FInputs.l.length
  ·obtain⟨h6,hh6⟩:=Qa hlt;rw [Q.drop_of hh6,Z99_q6];refine QT hlt ?_;refine Q.bindPO hh6 fun x16 hx_x16=>?_;refine Q.bindPO (Z84_eq _ _) fun x18 hx_x18=>?_;refine Q.bindO (Z91_eq _) fun x20=>?_;refine Q.guardPO (Z94_eq _ _) fun x21 hx_x21=>?_;refine Q.wrapOO fun Kj13 hKj13=>?_;have hj13:∀(s3_14:(Sl Bs)),Z99_j13 s9_8 (Z99_l6 a0 a1 a2 n6) s3_14=Kj13 s3_14:=by
    intro s3_14;refine Qe (hKj13 _) ?_;unfold Z99_j13;all_goals exact ih6 _ _ ⟨by omega,by omega⟩
   refine Q.condO ?_ ?_
   ·refine Q.bindO rfl fun x23=>?_;all_goals exact hj13 _
   all_goals exact hj13 _
  rw [dL (by omega),Z99_q6];refine QF hlt ?_;exact hend n6 s3_7 s9_8
def Z99_q (a0:TDoc) (a1:TDef) (a2:Bs) (a3:(Sl Bs)):Option (Sl Bs):=Option.bind (Z99_q6 a0 a2 a1.FInputs.l a3) fun s3_7=>on (s3_7) fun s3_3=>some s3_3
theorem Z99_eq (a0:TDoc) (a1:TDef) (a2:Bs) (a3:(Sl Bs)):Z99 a0 a1 a2 a3=Z99_q a0 a1 a2 a3:=by
 unfold Z99 Z99_q;refine Qs ?_;refine Q.wrapOO fun Kb6 hKb6=>?_;refine Z99_l6_qe  Kb6 ?_ _ _ _ ⟨Nat.succ_pos _,by omega⟩;intro n6 s3_7 s9_8;refine Qe (hKb6 _) ?_;refine Q.wrapPO fun Kj2 hKj2=>?_;have hj2:∀(s3_3:(Sl Bs)),Z99_j2  s3_3=Kj2 s3_3:=by
  intro s3_3;refine Qe (hKj2 _) ?_;unfold Z99_j2;all_goals rfl
 all_goals exact hj2 _
def Z100_q (a0:TDoc) (a1:Int):Option (Sl Z3):=Z100 a0 a1
theorem Z100_eq (a0:TDoc) (a1:Int):Z100 a0 a1=Z100_q a0 a1:=rfl
def Z96_q (a0:TDoc) (a1:Bs):Bool:=on (Z84_q a0 a1) fun x3=>on (Z88_q a1) fun x5=>(x5||x3.2)
theorem Z96_eq (a0:TDoc) (a1:Bs):Z96 a0 a1=some (Z96_q a0 a1):=by
 unfold Z96 Z96_q;refine Q.bindP (Z84_eq _ _) fun x3 hx_x3=>?_;refine Q.bindP (Z88_eq _) fun x5 hx_x5=>?_;all_goals rfl
def Z85_q6 (a1:Bs):List Z5->Unit ⊕ ((Z5×Bool))
 | []=>Sum.inl ()
 | h6::r6=>on (h6) fun x15=>bif ((x15.FName==a1)) then(on (h6) fun x18=>Sum.inr (x18,true)) else(Z85_q6 a1 (r6) )
theorem Z85_l6_qe {a0:(Sl Z5)}{a1:Bs}  (Kb6:(Unit ⊕ ((Z5×Bool)))->Option (Z5×Bool)) (hend:∀(n6:Nat) (s6_7:Nat) (y8_l0:Z5),Z85_j2   y8_l0=Kb6 (Sum.inl ())) (hret:∀e:(Z5×Bool),some e=Kb6 (Sum.inr e)):∀(n6:Nat) (s6_7:Nat) (y8_l0:Z5),(0<n6/\a0.l.length<s6_7+n6)->Z85_l6 a0 a1 n6 s6_7 y8_l0=Kb6 (Z85_q6 a1 (a0.l.drop s6_7) ):=by
 intro n6;induction n6 with
 | zero=>intro s6_7 y8_l0 hn; exact absurd hn.1 (by omega)
 | succ n6 ih6 =>
  intro s6_7 y8_l0 hn;rw [Z85_l6];by_cases hlt:s6_7<a0.l.length
  ·obtain⟨h6,hh6⟩:=Qa hlt;rw [Q.drop_of hh6,Z85_q6];refine QT hlt ?_;refine Q.bindP hh6 fun x15 hx_x15=>?_;refine Q.condP ?_ ?_
   ·refine Q.bindP hh6 fun x18 hx_x18=>?_;all_goals exact hret _
   all_goals exact ih6 _ _ ⟨by omega,by omega⟩
  rw [dL (by omega),Z85_q6];refine QF hlt ?_;exact hend n6 s6_7 y8_l0
def Z85_q (a0:(Sl Z5)) (a1:Bs):(Z5×Bool):=on (Z85_q6 a1 a0.l ) fun o6=>match o6 with|Sum.inl _=>(on (()) fun _=>((Z5.mk ([]:Bs) TRef.zero false Z7.zero (Sl.nil:Sl TDir)),false))|Sum.inr e6=>(e6)
theorem Z85_eq (a0:(Sl Z5)) (a1:Bs):Z85 a0 a1=some (Z85_q a0 a1):=by
 unfold Z85 Z85_q;refine Q.wrapPP fun Kb6 hKb6=>?_;refine Z85_l6_qe  Kb6 ?_ ?_ _ _ _ ⟨Nat.succ_pos _,by omega⟩
 ·intro n6 s6_7 y8_l0;refine Qe (hKb6 _) ?_;try dsimp only
  refine Q.wrapPP fun Kj2 hKj2=>?_;have hj2:∀(y3_l0:Z5),Z85_j2  y3_l0=Kj2 ():=by
   intro y3_l0;refine Qe (hKj2 _) ?_;unfold Z85_j2;all_goals rfl
  all_goals exact hj2 _
 intro e6;refine Qe (hKb6 _) ?_;try dsimp only
 all_goals rfl
def Z87_q (a0:TDoc) (a1:Bs):Bool:=on (Z84_q a0 a1) fun x3=>on (Z88_q a1) fun x5=>(x5||(x3.2&&(decide (x3.1.FKind=(4:Int)))))
theorem Z87_eq (a0:TDoc) (a1:Bs):Z87 a0 a1=some (Z87_q a0 a1):=by
 unfold Z87 Z87_q;refine Q.bindP (Z84_eq _ _) fun x3 hx_x3=>?_;refine Q.bindP (Z88_eq _) fun x5 hx_x5=>?_;all_goals rfl
def Z86_q (a0:TDoc) (a1:Bs):Bool:=on (Z84_q a0 a1) fun x3=>on (Z87_q a0 a1) fun x5=>(x5||(x3.2&&(decide (x3.1.FKind=(5:Int)))))
theorem Z86_eq (a0:TDoc) (a1:Bs):Z86 a0 a1=some (Z86_q a0 a1):=by
 unfold Z86 Z86_q;refine Q.bindP (Z84_eq _ _) fun x3 hx_x3=>?_;refine Q.bindP (Z87_eq _ _) fun x5 hx_x5=>?_;all_goals rfl
def Z95_q7 (a0:TDoc) (a1:(Sl Z5)) (a2:Bs) (a3:Bs):List Z5->Nat->(Sl Z3)->Option ((Sl Z3))
 | [],s10_9,s9_8=>some s9_8
 | h7::r7,s10_9,s9_8=>on (h7) fun x17=>(catC a2 x17.FName).bind fun x18=>(catC x18 a3).bind fun x19=>on ((⟨a1.nl,a1.l.take s10_9⟩:Sl Z5)) fun x21=>on (h7) fun x22=>on (Z85_q x21 x22.FName) fun x23=>on (h7) fun x25=>(Z98_q x25.FName false x23.2 x19).bind fun x26=>(appC 24 s9_8 x26).bind fun x27=>on (h7) fun x29=>on (Z96_q a0 x29.FType.FName) fun x30=>Option.bind (bif (!x30) then((appC 24 x27 (⟨false,[(Z3.mk (8:Int) x19)]⟩:Sl Z3)).bind fun x32=>some x32) else(on (h7) fun x34=>on (Z86_q a0 x34.FType.FName) fun x35=>bif (!x35) then((appC 24 x27 (⟨false,[(Z3.mk (10:Int) x19)]⟩:Sl Z3)).bind fun x37=>some x37) else(some x27))) fun s9_15=>Z95_q7 a0 a1 a2 a3 (r7) (s10_9+1) s9_15
theorem Z95_l7_qe {a0:TDoc}{a1:(Sl Z5)}{a2:Bs}{a3:Bs}  (Kb7:((Sl Z3))->Option (Sl Z3)) (hend:∀(n7:Nat) (s9_8:(Sl Z3)) (s10_9:Nat),Z95_j3   s9_8=Kb7 s9_8):∀(n7:Nat) (s9_8:(Sl Z3)) (s10_9:Nat),(0<n7/\a1.l.length<s10_9+n7)->Z95_l7 a0 a1 a2 a3 n7 s9_8 s10_9=Option.bind (Z95_q7 a0 a1 a2 a3 (a1.l.drop s10_9) s10_9 s9_8) Kb7:=by
 intro n7;induction n7 with
 | zero=>intro s9_8 s10_9 hn; exact absurd hn.1 (by omega)
 | succ n7 ih7 =>
  intro s9_8 s10_9 hn;rw [Z95_l7];by_cases hlt:s10_9<a1.l.length
  ·obtain⟨h7,hh7⟩:=Qa hlt;rw [Q.drop_of hh7,Z95_q7];refine QT hlt ?_;refine Q.bindPO hh7 fun x17 hx_x17=>?_;refine Q.bindO rfl fun x18=>?_;refine Q.bindO rfl fun x19=>?_;refine Q.bindPO (Q.partC_take (by omega)) fun x21 hx_x21=>?_;refine Q.bindPO hh7 fun x22 hx_x22=>?_;refine Q.bindPO (Z85_eq _ _) fun x23 hx_x23=>?_;refine Q.bindPO hh7 fun x25 hx_x25=>?_;refine Q.bindO (Z98_eq _ _ _ _) fun x26=>?_
   refine Q.bindO rfl fun x27=>?_;refine Q.bindPO hh7 fun x29 hx_x29=>?_;refine Q.bindPO (Z96_eq _ _) fun x30 hx_x30=>?_;refine Q.wrapOO fun Kj14 hKj14=>?_;have hj14:∀(s9_15:(Sl Z3)),Z95_j14 s10_9 (Z95_l7 a0 a1 a2 a3 n7) s9_15=Kj14 s9_15:=by
    intro s9_15;refine Qe (hKj14 _) ?_;unfold Z95_j14;all_goals exact ih7 _ _ ⟨by omega,by omega⟩
   refine Q.condO ?_ ?_
   ·refine Q.bindO rfl fun x32=>?_;all_goals exact hj14 _
   refine Q.bindPO hh7 fun x34 hx_x34=>?_;refine Q.bindPO (Z86_eq _ _) fun x35 hx_x35=>?_;refine Q.condO ?_ ?_
   ·refine Q.bindO rfl fun x37=>?_;all_goals exact hj14 _
   all_goals exact hj14 _
  rw [dL (by omega),Z95_q7];refine QF hlt ?_;exact hend n7 s9_8 s10_9
def Z95_q (a0:TDoc) (a1:(Sl Z5)) (a2:Bs) (a3:Bs):Option (Sl Z3):=Option.bind (Z95_q7 a0 a1 a2 a3 a1.l 0 (Sl.nil:Sl Z3)) fun s9_8=>on (s9_8) fun s9_4=>some s9_4
theorem Z95_eq (a0:TDoc) (a1:(Sl Z5)) (a2:Bs) (a3:Bs):Z95 a0 a1 a2 a3=Z95_q a0 a1 a2 a3:=by
 unfold Z95 Z95_q;refine Qs ?_;refine Q.wrapOO fun Kb7 hKb7=>?_;refine Z95_l7_qe  Kb7 ?_ _ _ _ ⟨Nat.succ_pos _,by omega⟩;intro n7 s9_8 s10_9;refine Qe (hKb7 _) ?_;refine Q.wrapPO fun Kj3 hKj3=>?_;have hj3:∀(s9_4:(Sl Z3)),Z95_j3  s9_4=Kj3 s9_4:=by
  intro s9_4;refine Qe (hKj3 _) ?_;unfold Z95_j3;all_goals rfl
 all_goals exact hj3 _
def Z83_q6 (a1:Bs):List Z4->Unit ⊕ ((Z4×Bool))
 | []=>Sum.inl ()
 | h6::r6=>on (h6) fun x15=>bif ((x15.FName==a1)) then(on (h6) fun x18=>Sum.inr (x18,true)) else(Z83_q6 a1 (r6) )
theorem Z83_l6_qe {a0:TDef}{a1:Bs}  (Kb6:(Unit ⊕ ((Z4×Bool)))->Option (Z4×Bool)) (hend:∀(n6:Nat) (s6_7:Nat) (y8_l0:Z4),Z83_j2   y8_l0=Kb6 (Sum.inl ())) (hret:∀e:(Z4×Bool),some e=Kb6 (Sum.inr e)):∀(n6:Nat) (s6_7:Nat) (y8_l0:Z4),(0<n6/\a0.FFields.l.length<s6_7+n6)->Z83_l6 a0 a1 n6 s6_7 y8_l0=Kb6 (Z83_q6 a1 (a0.FFields.l.drop s6_7) ):=by
 intro n6;induction n6 with
 | zero=>intro s6_7 y8_l0 hn; exact absurd hn.1 (by omega)
 | succ n6 ih6 =>
  intro s6_7 y8_l0 hn;rw [Z83_l6];by_cases hlt:s6_7<a0.FFields.l.length
  ·obtain⟨h6,hh6⟩:=Qa hlt;rw [Q.drop_of hh6,Z83_q6];refine QT hlt ?_;refine Q.bindP hh6 fun x15 hx_x15=>?_;refine Q.condP ?_ ?_
   ·refine Q.bindP hh6 fun x18 hx_x18=>?_;all_goals exact hret _
   all_goals exact ih6 _ _ ⟨by omega,by omega⟩
  rw [dL (by omega),Z83_q6];refine QF hlt ?_;exact hend n6 s6_7 y8_l0
def Z83_q (a0:TDef) (a1:Bs):(Z4×Bool):=on (Z83_q6 a1 a0.FFields.l ) fun o6=>match o6 with|Sum.inl _=>(on (()) fun _=>((Z4.mk ([]:Bs) (Sl.nil:Sl Z5) TRef.zero (Sl.nil:Sl TDir)),false))|Sum.inr e6=>(e6)
theorem Z83_eq (a0:TDef) (a1:Bs):Z83 a0 a1=some (Z83_q a0 a1):=by
 unfold Z83 Z83_q;refine Q.wrapPP fun Kb6 hKb6=>?_;refine Z83_l6_qe  Kb6 ?_ ?_ _ _ _ ⟨Nat.succ_pos _,by omega⟩
 ·intro n6 s6_7 y8_l0;refine Qe (hKb6 _) ?_;try dsimp only
  refine Q.wrapPP fun Kj2 hKj2=>?_;have hj2:∀(y3_l0:Z4),Z83_j2  y3_l0=Kj2 ():=by
   intro y3_l0;refine Qe (hKj2 _) ?_;unfold Z83_j2;all_goals rfl
  all_goals exact hj2 _
 intro e6;refine Qe (hKb6 _) ?_;try dsimp only
 all_goals rfl
def Z93_q7 (a0:TDoc) (a1:TDef):List Z4->Nat->(Sl Z3)->Option ((Sl Z3))
 | [],s6_9,s5_8=>some s5_8
 | h7::r7,s6_9,s5_8=>on (h7) fun x17=>(catC a1.FName ([46]:Bs)).bind fun x19=>(catC x19 x17.FName).bind fun x20=>on ((⟨a1.FFields.nl,a1.FFields.l.take s6_9⟩:Sl Z4)) fun x22=>on (Z83_q (TDef.mk (0:Int) ([]:Bs) (Sl.nil:Sl Bs) (Sl.nil:Sl TDir) x22 (Sl.nil:Sl Z6) (Sl.nil:Sl Z5)) x17.FName) fun x23=>(Z98_q x17.FName false x23.2 x20).bind fun x25=>(appC 24 s5_8 x25).bind fun x26=>on (Z84_q a0 x17.FType.FName) fun x28=>on (Z96_q a0 x17.FType.FName) fun x35=>Option.bind (bif (!x35) then((appC 24 x26 (⟨false,[(Z3.mk (8:Int) x20)]⟩:Sl Z3)).bind fun x37=>some x37) else(on (Z88_q x17.FType.FName) fun x39=>bif (((!x39)&&x28.2)&&(decide (x28.1.FKind=(5:Int)))) then((appC 24 x26 (⟨false,[(Z3.mk (10:Int) x20)]⟩:Sl Z3)).bind fun x41=>some x41) else(some x26))) fun s5_30=>(catC x20 ([40]:Bs)).bind fun x31=>(Z95_q a0 x17.FArgs x31 ([41]:Bs)).bind fun x32=>(appC 24 s5_30 x32).bind fun x33=>on (x33) fun s5_15=>Z93_q7 a0 a1 (r7) (s6_9+1) s5_15
theorem Z93_l7_qe {a0:TDoc}{a1:TDef}  (Kb7:((Sl Z3))->Option (Sl Z3)) (hend:∀(n7:Nat) (s5_8:(Sl Z3)) (s6_9:Nat),Z93_j3   s5_8=Kb7 s5_8):∀(n7:Nat) (s5_8:(Sl Z3)) (s6_9:Nat),(0<n7/\a1.FFields.l.length<s6_9+n7)->Z93_l7 a0 a1 n7 s5_8 s6_9=Option.bind (Z93_q7 a0 a1 (a1.FFields.l.drop s6_9) s6_9 s5_8) Kb7:=by
 intro n7;induction n7 with
 | zero=>intro s5_8 s6_9 hn; exact absurd hn.1 (by omega)
 | succ n7 ih7 =>
  intro s5_8 s6_9 hn;rw [Z93_l7];by_cases hlt:s6_9<a1.FFields.l.length
  ·obtain⟨h7,hh7⟩:=Qa hlt;rw [Q.drop_of hh7,Z93_q7];refine QT hlt ?_;refine Q.bindPO hh7 fun x17 hx_x17=>?_;refine Q.bindO rfl fun x19=>?_;refine Q.bindO rfl fun x20=>?_;refine Q.bindPO (Q.partC_take (by omega)) fun x22 hx_x22=>?_;refine Q.bindPO (Z83_eq _ _) fun x23 hx_x23=>?_;refine Q.bindO (Z98_eq _ _ _ _) fun x25=>?_;refine Q.bindO rfl fun x26=>?_;refine Q.bindPO (Z84_eq _ _) fun x28 hx_x28=>?_
   refine Q.bindPO (Z96_eq _ _) fun x35 hx_x35=>?_;refine Q.wrapOO fun Kj29 hKj29=>?_;have hj29:∀(s5_30:(Sl Z3)),Z93_j29 a0 s6_9 x17 x20 (Z93_l7 a0 a1 n7) s5_30=Kj29 s5_30:=by
    intro s5_30;refine Qe (hKj29 _) ?_;unfold Z93_j29;refine Q.bindO rfl fun x31=>?_;refine Q.bindO (Z95_eq _ _ _ _) fun x32=>?_;refine Q.bindO rfl fun x33=>?_;refine Q.wrapPO fun Kj14 hKj14=>?_;have hj14:∀(s5_15:(Sl Z3)),Z93_j14 s6_9 (Z93_l7 a0 a1 n7) s5_15=Kj14 s5_15:=by
     intro s5_15;refine Qe (hKj14 _) ?_;unfold Z93_j14;all_goals exact ih7 _ _ ⟨by omega,by omega⟩
    all_goals exact hj14 _
   refine Q.condO ?_ ?_
   ·refine Q.bindO rfl fun x37=>?_;all_goals exact hj29 _
   refine Q.bindPO (Z88_eq _) fun x39 hx_x39=>?_;refine Q.condO ?_ ?_
   ·refine Q.bindO rfl fun x41=>?_;all_goals exact hj29 _
   all_goals exact hj29 _
  rw [dL (by omega),Z93_q7];refine QF hlt ?_;exact hend n7 s5_8 s6_9
def Z93_q (a0:TDoc) (a1:TDef):Option (Sl Z3):=Option.bind (Z93_q7 a0 a1 a1.FFields.l 0 (Sl.nil:Sl Z3)) fun s5_8=>on (s5_8) fun s5_4=>some s5_4
theorem Z93_eq (a0:TDoc) (a1:TDef):Z93 a0 a1=Z93_q a0 a1:=by
 unfold Z93 Z93_q;refine Qs ?_;refine Q.wrapOO fun Kb7 hKb7=>?_;refine Z93_l7_qe  Kb7 ?_ _ _ _ ⟨Nat.succ_pos _,by omega⟩;intro n7 s5_8 s6_9;refine Qe (hKb7 _) ?_;refine Q.wrapPO fun Kj3 hKj3=>?_;have hj3:∀(s5_4:(Sl Z3)),Z93_j3  s5_4=Kj3 s5_4:=by
  intro s5_4;refine Qe (hKj3 _) ?_;unfold Z93_j3;all_goals rfl
 all_goals exact hj3 _
def Z97_q26 (a0:TDef) (x17:Z6):Nat->Nat->Bool->Option (Bool)
 | 0,s7_28,s6_27=>some s6_27
 | r26+1,s7_28,s6_27=>guardO (!s6_27) (a0.FMembers.l[s7_28]?) Z6.zero fun x33=>Z97_q26 a0 x17 (r26) (s7_28+1) (s6_27||((x33.FName==x17.FName)))
theorem Z97_l26_qe {a0:TDef}{s3_8:(Sl Z3)}{s4_9:Nat}{x17:Z6}{k_next_7:(Sl Z3)->Nat->Option (Sl Z3)}  (Kb26:(Bool)->Option (Sl Z3)) (hend:∀(n26:Nat) (s6_27:Bool) (s7_28:Nat),Z97_j19 a0 s3_8 s4_9 x17 k_next_7 s6_27=Kb26 s6_27):∀(n26:Nat) (s6_27:Bool) (s7_28:Nat),(0<n26/\s4_9<s7_28+n26)->Z97_l26 a0 s3_8 s4_9 x17 k_next_7 n26 s6_27 s7_28=Option.bind (Z97_q26 a0 x17 (s4_9-s7_28) s7_28 s6_27) Kb26:=by
 intro n26;induction n26 with
 | zero=>intro s6_27 s7_28 hn; exact absurd hn.1 (by omega)
 | succ n26 ih26 =>
  intro s6_27 s7_28 hn;rw [Z97_l26];by_cases hlt:s7_28<s4_9
  ·rw [show s4_9-s7_28=(s4_9-(s7_28+1))+1 by omega,Z97_q26];refine QT hlt ?_;refine Q.guardOO rfl fun x33=>?_;all_goals exact ih26 _ _ ⟨by omega,by omega⟩
  rw [show s4_9-s7_28=0 by omega,Z97_q26];refine QF hlt ?_;exact hend n26 s6_27 s7_28
def Z97_q7 (a0:TDef):List Z6->Nat->(Sl Z3)->Option ((Sl Z3))
 | [],s4_9,s3_8=>some s3_8
 | h7::r7,s4_9,s3_8=>on (h7) fun x17=>Option.bind (Z97_q26 a0 x17 s4_9 0 false) fun s6_27=>on (s6_27) fun s6_20=>(catC a0.FName ([46]:Bs)).bind fun x21=>(catC x21 x17.FName).bind fun x22=>(Z98_q x17.FName ((((x17.FName==([116,114,117,101]:Bs)))||((x17.FName==([102,97,108,115,101]:Bs))))||((x17.FName==([110,117,108,108]:Bs)))) s6_20 x22).bind fun x23=>(appC 24 s3_8 x23).bind fun x24=>on (x24) fun s3_15=>Z97_q7 a0 (r7) (s4_9+1) s3_15
theorem Z97_l7_qe {a0:TDef}  (Kb7:((Sl Z3))->Option (Sl Z3)) (hend:∀(n7:Nat) (s3_8:(Sl Z3)) (s4_9:Nat),Z97_j3   s3_8=Kb7 s3_8):∀(n7:Nat) (s3_8:(Sl Z3)) (s4_9:Nat),(0<n7/\a0.FMembers.l.length<s4_9+n7)->Z97_l7 a0 n7 s3_8 s4_9=Option.bind (Z97_q7 a0 (a0.FMembers.l.drop s4_9) s4_9 s3_8) Kb7:=by
 intro n7;induction n7 with
 | zero=>intro s3_8 s4_9 hn; exact absurd hn.1 (by omega)
 | succ n7 ih7 =>
  intro s3_8 s4_9 hn;rw [Z97_l7];by_cases hlt:s4_9<a0.FMembers.l.length
  ·obtain⟨h7,hh7⟩:=Qa hlt;rw [Q.drop_of hh7,Z97_q7];refine QT hlt ?_;refine Q.bindPO hh7 fun x17 hx_x17=>?_;refine Q.wrapOO fun Kb26 hKb26=>?_;refine Z97_l26_qe  Kb26 ?_ _ _ _ ⟨Nat.succ_pos _,by omega⟩;intro n26 s6_27 s7_28;refine Qe (hKb26 _) ?_;refine Q.wrapPO fun Kj19 hKj19=>?_;have hj19:∀(s6_20:Bool),Z97_j19 a0 s3_8 s4_9 x17 (Z97_l7 a0 n7) s6_20=Kj19 s6_20:=by
    intro s6_20;refine Qe (hKj19 _) ?_;unfold Z97_j19;refine Q.bindO rfl fun x21=>?_;refine Q.bindO rfl fun x22=>?_;refine Q.bindO (Z98_eq _ _ _ _) fun x23=>?_;refine Q.bindO rfl fun x24=>?_;refine Q.wrapPO fun Kj14 hKj14=>?_;have hj14:∀(s3_15:(Sl Z3)),Z97_j14 s4_9 (Z97_l7 a0 n7) s3_15=Kj14 s3_15:=by
     intro s3_15;refine Qe (hKj14 _) ?_;unfold Z97_j14;all_goals exact ih7 _ _ ⟨by omega,by omega⟩
    all_goals exact hj14 _
   all_goals exact hj19 _
  rw [dL (by omega),Z97_q7];refine QF hlt ?_;exact hend n7 s3_8 s4_9
def Z97_q (a0:TDef):Option (Sl Z3):=Option.bind (Z97_q7 a0 a0.FMembers.l 0 (Sl.nil:Sl Z3)) fun s3_8=>on (s3_8) fun s3_4=>some s3_4
theorem Z97_eq (a0:TDef):Z97 a0=Z97_q a0:=by
 unfold Z97 Z97_q;refine Qs ?_;refine Q.wrapOO fun Kb7 hKb7=>?_;refine Z97_l7_qe  Kb7 ?_ _ _ _ ⟨Nat.succ_pos _,by omega⟩;intro n7 s3_8 s4_9;refine Qe (hKb7 _) ?_;refine Q.wrapPO fun Kj3 hKj3=>?_;have hj3:∀(s3_4:(Sl Z3)),Z97_j3  s3_4=Kj3 s3_4:=by
  intro s3_4;refine Qe (hKj3 _) ?_;unfold Z97_j3;all_goals rfl
 all_goals exact hj3 _
def Z82_q14 (a0:TDoc):List TDef->Nat->(Sl Z3)->Option ((Sl Z3))
 | [],s6_16,s5_15=>some s5_15
 | h14::r14,s6_16,s5_15=>on (h14) fun x24=>(Z100_q a0 ((s6_16:Nat):Int)).bind fun x26=>(appC 24 s5_15 x26).bind fun x27=>on (bif (decide (x24.FKind=(1:Int))) then((decide (x24.FKind=(1:Int)))) else((decide (x24.FKind=(2:Int))))) fun s29_30=>Option.bind (bif s29_30 then((Z93_q a0 x24).bind fun x32=>(appC 24 x27 x32).bind fun x33=>some x33) else(bif (decide (x24.FKind=(4:Int))) then((Z97_q x24).bind fun x36=>(appC 24 x27 x36).bind fun x37=>some x37) else(bif (decide (x24.FKind=(5:Int))) then((catC x24.FName ([46]:Bs)).bind fun x40=>(Z95_q a0 x24.FInputs x40 ([]:Bs)).bind fun x41=>(appC 24 x27 x41).bind fun x42=>some x42) else(some x27)))) fun s5_22=>Z82_q14 a0 (r14) (s6_16+1) s5_22
theorem Z82_l14_qe {a0:TDoc}{a1:Bool}  (Kb14:((Sl Z3))->Option (Sl Z3)) (hend:∀(n14:Nat) (s5_15:(Sl Z3)) (s6_16:Nat),Z82_j3 a0 a1  s5_15=Kb14 s5_15):∀(n14:Nat) (s5_15:(Sl Z3)) (s6_16:Nat),(0<n14/\a0.FDefs.l.length<s6_16+n14)->Z82_l14 a0 a1 n14 s5_15 s6_16=Option.bind (Z82_q14 a0 (a0.FDefs.l.drop s6_16) s6_16 s5_15) Kb14:=by
 intro n14;induction n14 with
 | zero=>intro s5_15 s6_16 hn; exact absurd hn.1 (by omega)
 | succ n14 ih14 =>
  intro s5_15 s6_16 hn;rw [Z82_l14];by_cases hlt:s6_16<a0.FDefs.l.length
  ·obtain⟨h14,hh14⟩:=Qa hlt;rw [Q.drop_of hh14,Z82_q14];refine QT hlt ?_;refine Q.bindPO hh14 fun x24 hx_x24=>?_;refine Q.bindO (Z100_eq _ _) fun x26=>?_;refine Q.bindO rfl fun x27=>?_;refine Q.wrapPO fun Kj29 hKj29=>?_;have hj29:∀(s29_30:Bool),Z82_j29 a0 s6_16 x24 x27 (Z82_l14 a0 a1 n14) s29_30=Kj29 s29_30:=by
    intro s29_30;refine Qe (hKj29 _) ?_;unfold Z82_j29;refine Q.wrapOO fun Kj21 hKj21=>?_;have hj21:∀(s5_22:(Sl Z3)),Z82_j21 s6_16 (Z82_l14 a0 a1 n14) s5_22=Kj21 s5_22:=by
     intro s5_22;refine Qe (hKj21 _) ?_;unfold Z82_j21;all_goals exact ih14 _ _ ⟨by omega,by omega⟩
    refine Q.condO ?_ ?_
    ·refine Q.bindO (Z93_eq _ _) fun x32=>?_;refine Q.bindO rfl fun x33=>?_;all_goals exact hj21 _
    refine Q.condO ?_ ?_
    ·refine Q.bindO (Z97_eq _) fun x36=>?_;refine Q.bindO rfl fun x37=>?_;all_goals exact hj21 _
    refine Q.condO ?_ ?_
    ·refine Q.bindO rfl fun x40=>?_;refine Q.bindO (Z95_eq _ _ _ _) fun x41=>?_;refine Q.bindO rfl fun x42=>?_;all_goals exact hj21 _
    all_goals exact hj21 _
   refine Q.condP ?_ ?_
   ·all_goals exact hj29 _
   all_goals exact hj29 _
  rw [dL (by omega),Z82_q14];refine QF hlt ?_;exact hend n14 s5_15 s6_16
def Z82_q (a0:TDoc) (a1:Bool):Option (Sl Z3):=Option.bind (Z82_q14 a0 a0.FDefs.l 0 (Sl.nil:Sl Z3)) fun s5_15=>on (s5_15) fun s5_4=>on (Z84_q a0 ([81,117,101,114,121]:Bs)) fun x6=>Option.bind (bif (a1&&(!x6.2)) then((appC 24 s5_4 (⟨false,[(Z3.mk (30:Int) ([81,117,101,114,121]:Bs))]⟩:Sl Z3)).bind fun x12=>some x12) else(some s5_4)) fun s5_8=>some s5_8
theorem Z82_eq (a0:TDoc) (a1:Bool):Z82 a0 a1=Z82_q a0 a1:=by
 unfold Z82 Z82_q;refine Qs ?_;refine Q.wrapOO fun Kb14 hKb14=>?_;refine Z82_l14_qe  Kb14 ?_ _ _ _ ⟨Nat.succ_pos _,by omega⟩;intro n14 s5_15 s6_16;refine Qe (hKb14 _) ?_;refine Q.wrapPO fun Kj3 hKj3=>?_;have hj3:∀(s5_4:(Sl Z3)),Z82_j3 a0 a1 s5_4=Kj3 s5_4:=by
  intro s5_4;refine Qe (hKj3 _) ?_;unfold Z82_j3;refine Q.bindPO (Z84_eq _ _) fun x6 hx_x6=>?_;refine Q.wrapOO fun Kj7 hKj7=>?_;have hj7:∀(s5_8:(Sl Z3)),Z82_j7  s5_8=Kj7 s5_8:=by
   intro s5_8;refine Qe (hKj7 _) ?_;unfold Z82_j7;all_goals rfl
  refine Q.condO ?_ ?_
  ·refine Q.bindO rfl fun x12=>?_;all_goals exact hj7 _
  all_goals exact hj7 _
 all_goals exact hj3 _
def Z108_q (a0:TDoc) (a1:Bs) (a2:Int):Int:=on (Z84_q a0 a1) fun x3=>on (bif (!x3.2) then Z88_q a1 else false) fun x6=>bif ((!x3.2)&&(!x6)) then((8:Int)) else(bif (!decide (x3.1.FKind=a2)) then((9:Int)) else((0:Int)))
theorem Z108_eq (a0:TDoc) (a1:Bs) (a2:Int):Z108 a0 a1 a2=some (Z108_q a0 a1 a2):=by
 unfold Z108 Z108_q;refine Q.bindP (Z84_eq _ _) fun x3 hx_x3=>?_;refine Q.guardP (Z88_eq _) fun x6 hx_x6=>?_;refine Q.condP ?_ ?_
 ·all_goals rfl
 refine Q.condP ?_ ?_
 ·all_goals rfl
 all_goals rfl
def Z107_q5 (a1:Bs):List Bs->Unit ⊕ Bool
 | []=>Sum.inl ()
 | h5::r5=>on (h5) fun x13=>bif ((x13==a1)) then(Sum.inr true) else(Z107_q5 a1 (r5) )
theorem Z107_l5_qe {a0:(Sl Bs)}{a1:Bs}  (Kb5:(Unit ⊕ Bool)->Option Bool) (hend:∀(n5:Nat) (s5_6:Nat),Z107_j2   =Kb5 (Sum.inl ())) (hret:∀e:Bool,some e=Kb5 (Sum.inr e)):∀(n5:Nat) (s5_6:Nat),(0<n5/\a0.l.length<s5_6+n5)->Z107_l5 a0 a1 n5 s5_6=Kb5 (Z107_q5 a1 (a0.l.drop s5_6) ):=by
 intro n5;induction n5 with
 | zero=>intro s5_6 hn; exact absurd hn.1 (by omega)
 | succ n5 ih5 =>
  intro s5_6 hn;rw [Z107_l5];by_cases hlt:s5_6<a0.l.length
  ·obtain⟨h5,hh5⟩:=Qa hlt;rw [Q.drop_of hh5,Z107_q5];refine QT hlt ?_;refine Q.bindP hh5 fun x13 hx_x13=>?_;refine Q.condP ?_ ?_
   ·all_goals exact hret _
   all_goals exact ih5 _ ⟨by omega,by omega⟩
  rw [dL (by omega),Z107_q5];refine QF hlt ?_;exact hend n5 s5_6
def Z107_q (a0:(Sl Bs)) (a1:Bs):Bool:=on (Z107_q5 a1 a0.l ) fun o5=>match o5 with|Sum.inl _=>(on (()) fun _=>false)|Sum.inr e5=>(e5)
theorem Z107_eq (a0:(Sl Bs)) (a1:Bs):Z107 a0 a1=some (Z107_q a0 a1):=by
 unfold Z107 Z107_q;refine Q.wrapPP fun Kb5 hKb5=>?_;refine Z107_l5_qe  Kb5 ?_ ?_ _ _ ⟨Nat.succ_pos _,by omega⟩
 ·intro n5 s5_6;refine Qe (hKb5 _) ?_;try dsimp only
  refine Q.wrapPP fun Kj2 hKj2=>?_;have hj2:Z107_j2  =Kj2 ():=by
   refine Qe (hKj2 _) ?_;unfold Z107_j2;all_goals rfl
  all_goals exact hj2
 intro e5;refine Qe (hKb5 _) ?_;try dsimp only
 all_goals rfl
def Z58_q11 (a1:(Sl Int)):List Int->Nat->Option (Unit ⊕ Bool)
 | [],s5_12=>some (Sum.inl ())
 | h11::r11,s5_12=>on (h11) fun x19=>(a1.l[s5_12]?).bind fun x20=>bif (!decide (x19=x20)) then(some (Sum.inr false)) else(Z58_q11 a1 (r11) (s5_12+1) )
theorem Z58_l11_qe {a0:(Sl Int)}{a1:(Sl Int)}  (Kb11:(Unit ⊕ Bool)->Option Bool) (hend:∀(n11:Nat) (s5_12:Nat),Z58_j8   =Kb11 (Sum.inl ())) (hret:∀e:Bool,some e=Kb11 (Sum.inr e)):∀(n11:Nat) (s5_12:Nat),(0<n11/\a0.l.length<s5_12+n11)->Z58_l11 a0 a1 n11 s5_12=Option.bind (Z58_q11 a1 (a0.l.drop s5_12) s5_12 ) Kb11:=by
 intro n11;induction n11 with
 | zero=>intro s5_12 hn; exact absurd hn.1 (by omega)
 | succ n11 ih11 =>
  intro s5_12 hn;rw [Z58_l11];by_cases hlt:s5_12<a0.l.length
  ·obtain⟨h11,hh11⟩:=Qa hlt;rw [Q.drop_of hh11,Z58_q11];refine QT hlt ?_;refine Q.bindPO hh11 fun x19 hx_x19=>?_;refine Q.bindO rfl fun x20=>?_;refine Q.condO ?_ ?_
   ·all_goals exact hret _
   all_goals exact ih11 _ ⟨by omega,by omega⟩
  rw [dL (by omega),Z58_q11];refine QF hlt ?_;exact hend n11 s5_12
def Z58_q (a0:(Sl Int)) (a1:(Sl Int)):Option Bool:=bif (!decide (((a0.l.length:Nat):Int)=((a1.l.length:Nat):Int))) then(some false) else(Option.bind (Z58_q11 a1 a0.l 0 ) fun o11=>match o11 with|Sum.inl _=>(on (()) fun _=>some true)|Sum.inr e11=>(some e11))
theorem Z58_eq (a0:(Sl Int)) (a1:(Sl Int)):Z58 a0 a1=Z58_q a0 a1:=by
 unfold Z58 Z58_q;refine Qs ?_;refine Q.condO ?_ ?_
 ·all_goals rfl
 refine Q.wrapOO fun Kb11 hKb11=>?_;refine Z58_l11_qe  Kb11 ?_ ?_ _ _ ⟨Nat.succ_pos _,by omega⟩
 ·intro n11 s5_12;refine Qe (hKb11 _) ?_;try dsimp only
  refine Q.wrapPO fun Kj8 hKj8=>?_;have hj8:Z58_j8  =Kj8 ():=by
   refine Qe (hKj8 _) ?_;unfold Z58_j8;all_goals rfl
  all_goals exact hj8
 intro e11;refine Qe (hKb11 _) ?_;try dsimp only
 all_goals rfl
def Z56_q (a0:TRef) (a1:TRef):Option Bool:=guardO (((a0.FName==a1.FName))) (Z58_q a0.FWraps a1.FWraps) false fun x3=>some (((a0.FName==a1.FName))&&x3)
theorem Z56_eq (a0:TRef) (a1:TRef):Z56 a0 a1=Z56_q a0 a1:=by
 unfold Z56 Z56_q;refine Qs ?_;refine Q.guardOO (Z58_eq _ _) fun x3=>?_;all_goals rfl
def Z53_q (a0:TRef):Bool:=on (bif (decide ((0:Int)<((a0.FWraps.l.length:Nat):Int))) then((a0.FWraps.l)[0]?.getD (0:Int)) else(0:Int)) fun x4=>((decide ((0:Int)<((a0.FWraps.l.length:Nat):Int)))&&(decide (x4=(1:Int))))
theorem Z53_eq (a0:TRef):Z53 a0=some (Z53_q a0):=by
 unfold Z53 Z53_q;refine Q.guardT (fun hc=>Q.getD_some (by simp at hc; omega)) fun x4 hx_x4=>?_;all_goals rfl
def Z57_q (a0:TRef):Option TRef:=(partC a0.FWraps (some (1:Int)) none).bind fun x3=>(appC 8 (⟨false,[]⟩:Sl Int) x3).bind fun x4=>some (TRef.mk a0.FName x4)
theorem Z57_eq (a0:TRef):Z57 a0=Z57_q a0:=by
 unfold Z57 Z57_q;refine Qs ?_;refine Q.bindO rfl fun x3=>?_;refine Q.bindO rfl fun x4=>?_;all_goals rfl
def Z54_q (a0:TRef):Option TRef:=on (Z53_q a0) fun x4=>bif x4 then((Z57_q a0).bind fun x7=>some x7) else((appC 8 (⟨false,[]⟩:Sl Int) a0.FWraps).bind fun x9=>some (TRef.mk a0.FName x9))
theorem Z54_eq (a0:TRef):Z54 a0=Z54_q a0:=by
 unfold Z54 Z54_q;refine Qs ?_;refine Q.bindPO (Z53_eq _) fun x4 hx_x4=>?_;refine Q.condO ?_ ?_
 ·refine Q.bindO (Z57_eq _) fun x7=>?_;all_goals rfl
 refine Q.bindO rfl fun x9=>?_;all_goals rfl
def Z52_q (a0:TRef):Option Bool:=(Z54_q a0).bind fun x3=>on (bif (decide ((0:Int)<((x3.FWraps.l.length:Nat):Int))) then((x3.FWraps.l)[0]?.getD (0:Int)) else(0:Int)) fun x6=>some ((decide ((0:Int)<((x3.FWraps.l.length:Nat):Int)))&&(decide (x6=(2:Int))))
theorem Z52_eq (a0:TRef):Z52 a0=Z52_q a0:=by
 unfold Z52 Z52_q;refine Qs ?_;refine Q.bindO (Z54_eq _) fun x3=>?_;refine Q.guardTO (fun hc=>Q.getD_some (by simp at hc; omega)) fun x6 hx_x6=>?_;all_goals rfl
def Z51_q (a0:TRef):Option (TRef×Bool):=(Z52_q a0).bind fun x4=>bif (!x4) then(some ((TRef.mk ([]:Bs) (Sl.nil:Sl Int)),false)) else((Z54_q a0).bind fun x8=>(Z57_q x8).bind fun x9=>some (x9,true))
theorem Z51_eq (a0:TRef):Z51 a0=Z51_q a0:=by
 unfold Z51 Z51_q;refine Qs ?_;refine Q.bindO (Z52_eq _) fun x4=>?_;refine Q.condO ?_ ?_
 ·all_goals rfl
 refine Q.bindO (Z54_eq _) fun x8=>?_;refine Q.bindO (Z57_eq _) fun x9=>?_;all_goals rfl
def Z109_q5 (a1:Bs):List Z6->Unit ⊕ Bool
 | []=>Sum.inl ()
 | h5::r5=>on (h5) fun x13=>bif ((x13.FName==a1)) then(Sum.inr true) else(Z109_q5 a1 (r5) )
theorem Z109_l5_qe {a0:TDef}{a1:Bs}  (Kb5:(Unit ⊕ Bool)->Option Bool) (hend:∀(n5:Nat) (s5_6:Nat),Z109_j2   =Kb5 (Sum.inl ())) (hret:∀e:Bool,some e=Kb5 (Sum.inr e)):∀(n5:Nat) (s5_6:Nat),(0<n5/\a0.FMembers.l.length<s5_6+n5)->Z109_l5 a0 a1 n5 s5_6=Kb5 (Z109_q5 a1 (a0.FMembers.l.drop s5_6) ):=by
 intro n5;induction n5 with
 | zero=>intro s5_6 hn; exact absurd hn.1 (by omega)
 | succ n5 ih5 =>
  intro s5_6 hn;rw [Z109_l5];by_cases hlt:s5_6<a0.FMembers.l.length
  ·obtain⟨h5,hh5⟩:=Qa hlt;rw [Q.drop_of hh5,Z109_q5];refine QT hlt ?_;refine Q.bindP hh5 fun x13 hx_x13=>?_;refine Q.condP ?_ ?_
   ·all_goals exact hret _
   all_goals exact ih5 _ ⟨by omega,by omega⟩
  rw [dL (by omega),Z109_q5];refine QF hlt ?_;exact hend n5 s5_6
def Z109_q (a0:TDef) (a1:Bs):Bool:=on (Z109_q5 a1 a0.FMembers.l ) fun o5=>match o5 with|Sum.inl _=>(on (()) fun _=>false)|Sum.inr e5=>(e5)
theorem Z109_eq (a0:TDef) (a1:Bs):Z109 a0 a1=some (Z109_q a0 a1):=by
 unfold Z109 Z109_q;refine Q.wrapPP fun Kb5 hKb5=>?_;refine Z109_l5_qe  Kb5 ?_ ?_ _ _ ⟨Nat.succ_pos _,by omega⟩
 ·intro n5 s5_6;refine Qe (hKb5 _) ?_;try dsimp only
  refine Q.wrapPP fun Kj2 hKj2=>?_;have hj2:Z109_j2  =Kj2 ():=by
   refine Qe (hKj2 _) ?_;unfold Z109_j2;all_goals rfl
  all_goals exact hj2
 intro e5;refine Qe (hKb5 _) ?_;try dsimp only
 all_goals rfl
def Z106_q (a0:TDoc) (a1:Int):Option Bool:=Z106 a0 a1
theorem Z106_eq (a0:TDoc) (a1:Int):Z106 a0 a1=Z106_q a0 a1:=rfl
def Z103_q9 (a0:TDoc) (a1:Bs) (x4:(TDef×Bool)):List TDef->Nat->(Sl Bs)->Option ((Sl Bs))
 | [],s8_11,s5_10=>some s5_10
 | h9::r9,s8_11,s5_10=>bif x4.2 then(on (h9) fun x19=>guardO (!(!decide (x19.FKind=(1:Int)))) (Z106_q a0 ((s8_11:Nat):Int)) false fun x22=>Option.bind (bif ((!decide (x19.FKind=(1:Int)))||(!x22)) then(some s5_10) else(on (bif (!((decide (x4.1.FKind=(1:Int)))&&((x19.FName==a1)))&&(decide (x4.1.FKind=(2:Int)))) then Z107_q x19.FImplements a1 else false) fun x26=>on (bif (!(((decide (x4.1.FKind=(1:Int)))&&((x19.FName==a1)))||((decide (x4.1.FKind=(2:Int)))&&x26))&&(decide (x4.1.FKind=(3:Int)))) then Z109_q x4.1 x19.FName else false) fun x28=>bif ((((decide (x4.1.FKind=(1:Int)))&&((x19.FName==a1)))||((decide (x4.1.FKind=(2:Int)))&&x26))||((decide (x4.1.FKind=(3:Int)))&&x28)) then((appC 16 s5_10 (⟨false,[x19.FName]⟩:Sl Bs)).bind fun x31=>some x31) else(some s5_10))) fun s5_17=>Z103_q9 a0 a1 x4 (r9) (s8_11+1) s5_17) else(some s5_10)
theorem Z103_l9_qe {a0:TDoc}{a1:Bs}{x4:(TDef×Bool)}  (Kb9:((Sl Bs))->Option (Sl Bs)) (hend:∀(n9:Nat) (s5_10:(Sl Bs)) (s8_11:Nat),Z103_j5   s5_10=Kb9 s5_10):∀(n9:Nat) (s5_10:(Sl Bs)) (s8_11:Nat),(0<n9/\a0.FDefs.l.length<s8_11+n9)->Z103_l9 a0 a1 x4 n9 s5_10 s8_11=Option.bind (Z103_q9 a0 a1 x4 (a0.FDefs.l.drop s8_11) s8_11 s5_10) Kb9:=by
 intro n9;induction n9 with
 | zero=>intro s5_10 s8_11 hn; exact absurd hn.1 (by omega)
 | succ n9 ih9 =>
  intro s5_10 s8_11 hn;rw [Z103_l9];by_cases hlt:s8_11<a0.FDefs.l.length
  ·obtain⟨h9,hh9⟩:=Qa hlt;rw [Q.drop_of hh9,Z103_q9];refine Q.condAT (Q.ltT hlt) ?_;refine Q.condO ?_ ?_
   ·refine Q.bindPO hh9 fun x19 hx_x19=>?_;refine Q.guardOO (Z106_eq _ _) fun x22=>?_;refine Q.wrapOO fun Kj16 hKj16=>?_;have hj16:∀(s5_17:(Sl Bs)),Z103_j16 s8_11 (Z103_l9 a0 a1 x4 n9) s5_17=Kj16 s5_17:=by
     intro s5_17;refine Qe (hKj16 _) ?_;unfold Z103_j16;all_goals exact ih9 _ _ ⟨by omega,by omega⟩
    refine Q.condO ?_ ?_
    ·all_goals exact hj16 _
    refine Q.guardPO (Z107_eq _ _) fun x26 hx_x26=>?_;refine Q.guardPO (Z109_eq _ _) fun x28 hx_x28=>?_;refine Q.condO ?_ ?_
    ·refine Q.bindO rfl fun x31=>?_;all_goals exact hj16 _
    all_goals exact hj16 _
   all_goals exact hend n9 s5_10 s8_11
  rw [dL (by omega),Z103_q9];refine Q.condAF (Q.ltF hlt) ?_;exact hend n9 s5_10 s8_11
def Z103_q (a0:TDoc) (a1:Bs):Option (Sl Bs):=on (Z84_q a0 a1) fun x4=>Option.bind (Z103_q9 a0 a1 x4 a0.FDefs.l 0 (Sl.nil:Sl Bs)) fun s5_10=>on (s5_10) fun s5_6=>some s5_6
theorem Z103_eq (a0:TDoc) (a1:Bs):Z103 a0 a1=Z103_q a0 a1:=by
 unfold Z103 Z103_q;refine Qs ?_;refine Q.bindPO (Z84_eq _ _) fun x4 hx_x4=>?_;refine Q.wrapOO fun Kb9 hKb9=>?_;refine Z103_l9_qe  Kb9 ?_ _ _ _ ⟨Nat.succ_pos _,by omega⟩;intro n9 s5_10 s8_11;refine Qe (hKb9 _) ?_;refine Q.wrapPO fun Kj5 hKj5=>?_;have hj5:∀(s5_6:(Sl Bs)),Z103_j5  s5_6=Kj5 s5_6:=by
  intro s5_6;refine Qe (hKj5 _) ?_;unfold Z103_j5;all_goals rfl
 all_goals exact hj5 _
end Go.Proofs

namespace Go.Proofs
open Go Go.Ab
def Z102_q (a0:TDoc) (a1:Bs) (a2:Bs):Option Bool:=(Z103_q a0 a2).bind fun x3=>on (Z107_q x3 a1) fun x4=>some x4
theorem Z102_eq (a0:TDoc) (a1:Bs) (a2:Bs):Z102 a0 a1 a2=Z102_q a0 a1 a2:=by
 unfold Z102 Z102_q;refine Qs ?_;refine Q.bindO (Z103_eq _ _) fun x3=>?_;refine Q.bindPO (Z107_eq _ _) fun x4 hx_x4=>?_;all_goals rfl
def Z104_qn:Nat->TDoc->TRef->TRef->Option Bool
 | 0,_,_,_=>none
 | n+1,a0,a1,a2=>on (Z53_q a2) fun x4=>bif x4 then(on (Z53_q a1) fun x7=>guardO (x7) (Z54_q a1) TRef.zero fun x8=>guardO (x7) (Z54_q a2) TRef.zero fun x9=>guardO (x7) ((Z104_qn n) a0 x8 x9) false fun x10=>some (x7&&x10)) else(on (Z53_q a1) fun x13=>bif x13 then((Z54_q a1).bind fun x16=>((Z104_qn n) a0 x16 a2).bind fun x17=>some x17) else((Z51_q a1).bind fun x19=>(Z51_q a2).bind fun x21=>bif (x19.2&&x21.2) then(((Z104_qn n) a0 x19.1 x21.1).bind fun x26=>some x26) else(guardO ((((!x19.2)&&(!x21.2))&&!((a1.FName==a2.FName)))) (Z102_q a0 a1.FName a2.FName) false fun x28=>some (((!x19.2)&&(!x21.2))&&(((a1.FName==a2.FName))||x28)))))
theorem Z104_qall:∀n:Nat,Z104_n n=Z104_qn n:=by
 intro n;induction n with
 | zero=>exact(by funext a0 a1 a2; first|rfl|(rw [Z104_n,Z104_qn]))
 | succ n ih =>
  funext a0 a1 a2
  refine Qs ?_;rw [Z104_n,Z104_qn];try rw [ih]
  refine Q.bindPO (Z53_eq _) fun x4 hx_x4=>?_;refine Q.condO ?_ ?_
  ·refine Q.bindPO (Z53_eq _) fun x7 hx_x7=>?_;refine Q.guardOO (Z54_eq _) fun x8=>?_;refine Q.guardOO (Z54_eq _) fun x9=>?_;refine Q.guardOO rfl fun x10=>?_;all_goals rfl
  refine Q.bindPO (Z53_eq _) fun x13 hx_x13=>?_;refine Q.condO ?_ ?_
  ·refine Q.bindO (Z54_eq _) fun x16=>?_;refine Q.bindO rfl fun x17=>?_;all_goals rfl
  refine Q.bindO (Z51_eq _) fun x19=>?_;refine Q.bindO (Z51_eq _) fun x21=>?_;refine Q.condO ?_ ?_
  ·refine Q.bindO rfl fun x26=>?_;all_goals rfl
  refine Q.guardOO (Z102_eq _ _ _) fun x28=>?_;all_goals rfl
def Z104_q (a0:TDoc) (a1:TRef) (a2:TRef):Option Bool:=Z104_qn F0 a0 a1 a2
theorem Z104_eq (a0:TDoc) (a1:TRef) (a2:TRef):Z104 a0 a1 a2=Z104_q a0 a1 a2:=by
 unfold Z104 Z104_q; rw [(Z104_qall F0)]
def Z105_q43 (x4:Bs) (x6:(Z4×Bool)):List Z5->(Sl Z3)->Option ((Sl Z3))
 | [],s10_44=>some s10_44
 | h43::r43,s10_44=>on (h43) fun x53=>on (Z85_q x6.1.FArgs x53.FName) fun x54=>on (bif !(!x54.2) then h43 else Z5.zero) fun x56=>guardO (!(!x54.2)) (Z56_q x54.1.FType x56.FType) false fun x57=>Option.bind (bif ((!x54.2)||(!x57)) then((catC x4 ([40]:Bs)).bind fun x59=>on (h43) fun x60=>(catC x59 x60.FName).bind fun x61=>(catC x61 ([41]:Bs)).bind fun x62=>(appC 24 s10_44 (⟨false,[(Z3.mk (22:Int) x62)]⟩:Sl Z3)).bind fun x63=>some x63) else(some s10_44)) fun s10_51=>Z105_q43 x4 x6 (r43) s10_51
theorem Z105_l43_qe {a2:Z4}{x4:Bs}{x6:(Z4×Bool)}  (Kb43:((Sl Z3))->Option (Sl Z3)) (hend:∀(n43:Nat) (s10_44:(Sl Z3)) (s11_45:Nat),Z105_j14 a2 x4 x6  s10_44=Kb43 s10_44):∀(n43:Nat) (s10_44:(Sl Z3)) (s11_45:Nat),(0<n43/\a2.FArgs.l.length<s11_45+n43)->Z105_l43 a2 x4 x6 n43 s10_44 s11_45=Option.bind (Z105_q43 x4 x6 (a2.FArgs.l.drop s11_45) s10_44) Kb43:=by
 intro n43;induction n43 with
 | zero=>intro s10_44 s11_45 hn; exact absurd hn.1 (by omega)
 | succ n43 ih43 =>
  intro s10_44 s11_45 hn;rw [Z105_l43];by_cases hlt:s11_45<a2.FArgs.l.length
  ·obtain⟨h43,hh43⟩:=Qa hlt;rw [Q.drop_of hh43,Z105_q43];refine QT hlt ?_;refine Q.bindPO hh43 fun x53 hx_x53=>?_;refine Q.bindPO (Z85_eq _ _) fun x54 hx_x54=>?_;refine Q.guardPO hh43 fun x56 hx_x56=>?_;refine Q.guardOO (Z56_eq _ _) fun x57=>?_;refine Q.wrapOO fun Kj50 hKj50=>?_;have hj50:∀(s10_51:(Sl Z3)),Z105_j50 s11_45 (Z105_l43 a2 x4 x6 n43) s10_51=Kj50 s10_51:=by
    intro s10_51;refine Qe (hKj50 _) ?_;unfold Z105_j50;all_goals exact ih43 _ _ ⟨by omega,by omega⟩
   refine Q.condO ?_ ?_
   ·refine Q.bindO rfl fun x59=>?_;refine Q.bindPO hh43 fun x60 hx_x60=>?_;refine Q.bindO rfl fun x61=>?_;refine Q.bindO rfl fun x62=>?_;refine Q.bindO rfl fun x63=>?_;all_goals exact hj50 _
   all_goals exact hj50 _
  rw [dL (by omega),Z105_q43];refine QF hlt ?_;exact hend n43 s10_44 s11_45
def Z105_q20 (a2:Z4) (x4:Bs):List Z5->(Sl Z3)->Option ((Sl Z3))
 | [],s10_21=>some s10_21
 | h20::r20,s10_21=>on (h20) fun x30=>on (Z85_q a2.FArgs x30.FName) fun x31=>on (bif (!x31.2) then h20 else Z5.zero) fun x33=>on (bif (!x31.2) then Z53_q x33.FType else false) fun x34=>on (bif ((!x31.2)&&x34) then h20 else Z5.zero) fun x35=>Option.bind (bif (((!x31.2)&&x34)&&(!x35.FHas)) then((catC x4 ([40]:Bs)).bind fun x37=>on (h20) fun x38=>(catC x37 x38.FName).bind fun x39=>(catC x39 ([41]:Bs)).bind fun x40=>(appC 24 s10_21 (⟨false,[(Z3.mk (22:Int) x40)]⟩:Sl Z3)).bind fun x41=>some x41) else(some s10_21)) fun s10_28=>Z105_q20 a2 x4 (r20) s10_28
theorem Z105_l20_qe {a2:Z4}{x4:Bs}{x6:(Z4×Bool)}  (Kb20:((Sl Z3))->Option (Sl Z3)) (hend:∀(n20:Nat) (s10_21:(Sl Z3)) (s14_22:Nat),Z105_j16   s10_21=Kb20 s10_21):∀(n20:Nat) (s10_21:(Sl Z3)) (s14_22:Nat),(0<n20/\x6.1.FArgs.l.length<s14_22+n20)->Z105_l20 a2 x4 x6 n20 s10_21 s14_22=Option.bind (Z105_q20 a2 x4 (x6.1.FArgs.l.drop s14_22) s10_21) Kb20:=by
 intro n20;induction n20 with
 | zero=>intro s10_21 s14_22 hn; exact absurd hn.1 (by omega)
 | succ n20 ih20 =>
  intro s10_21 s14_22 hn;rw [Z105_l20];by_cases hlt:s14_22<x6.1.FArgs.l.length
  ·obtain⟨h20,hh20⟩:=Qa hlt;rw [Q.drop_of hh20,Z105_q20];refine QT hlt ?_;refine Q.bindPO hh20 fun x30 hx_x30=>?_;refine Q.bindPO (Z85_eq _ _) fun x31 hx_x31=>?_;refine Q.guardPO hh20 fun x33 hx_x33=>?_;refine Q.guardPO (Z53_eq _) fun x34 hx_x34=>?_;refine Q.guardPO hh20 fun x35 hx_x35=>?_;refine Q.wrapOO fun Kj27 hKj27=>?_;have hj27:∀(s10_28:(Sl Z3)),Z105_j27 s14_22 (Z105_l20 a2 x4 x6 n20) s10_28=Kj27 s10_28:=by
    intro s10_28;refine Qe (hKj27 _) ?_;unfold Z105_j27;all_goals exact ih20 _ _ ⟨by omega,by omega⟩
   refine Q.condO ?_ ?_
   ·refine Q.bindO rfl fun x37=>?_;refine Q.bindPO hh20 fun x38 hx_x38=>?_;refine Q.bindO rfl fun x39=>?_;refine Q.bindO rfl fun x40=>?_;refine Q.bindO rfl fun x41=>?_;all_goals exact hj27 _
   all_goals exact hj27 _
  rw [dL (by omega),Z105_q20];refine QF hlt ?_;exact hend n20 s10_21 s14_22
def Z105_q (a0:TDoc) (a1:TDef) (a2:Z4):Option (Sl Z3):=(catC a1.FName ([46]:Bs)).bind fun x3=>(catC x3 a2.FName).bind fun x4=>on (Z83_q a1 a2.FName) fun x6=>bif (!x6.2) then(some (⟨false,[(Z3.mk (20:Int) x4)]⟩:Sl Z3)) else((Z104_q a0 x6.1.FType a2.FType).bind fun x65=>Option.bind (bif (!x65) then((appC 24 (Sl.nil:Sl Z3) (⟨false,[(Z3.mk (10:Int) x4)]⟩:Sl Z3)).bind fun x67=>some x67) else(some (Sl.nil:Sl Z3))) fun s10_13=>Option.bind (Z105_q43 x4 x6 a2.FArgs.l s10_13) fun s10_44=>on (s10_44) fun s10_15=>Option.bind (Z105_q20 a2 x4 x6.1.FArgs.l s10_15) fun s10_21=>on (s10_21) fun s10_17=>some s10_17)
theorem Z105_eq (a0:TDoc) (a1:TDef) (a2:Z4):Z105 a0 a1 a2=Z105_q a0 a1 a2:=by
 unfold Z105 Z105_q;refine Qs ?_;refine Q.bindO rfl fun x3=>?_;refine Q.bindO rfl fun x4=>?_;refine Q.bindPO (Z83_eq _ _) fun x6 hx_x6=>?_;refine Q.condO ?_ ?_
 ·all_goals rfl
 refine Q.bindO (Z104_eq _ _ _) fun x65=>?_;refine Q.wrapOO fun Kj12 hKj12=>?_;have hj12:∀(s10_13:(Sl Z3)),Z105_j12 a2 x4 x6 s10_13=Kj12 s10_13:=by
  intro s10_13;refine Qe (hKj12 _) ?_;unfold Z105_j12;refine Q.wrapOO fun Kb43 hKb43=>?_;refine Z105_l43_qe  Kb43 ?_ _ _ _ ⟨Nat.succ_pos _,by omega⟩;intro n43 s10_44 s11_45;refine Qe (hKb43 _) ?_;refine Q.wrapPO fun Kj14 hKj14=>?_;have hj14:∀(s10_15:(Sl Z3)),Z105_j14 a2 x4 x6 s10_15=Kj14 s10_15:=by
   intro s10_15;refine Qe (hKj14 _) ?_;unfold Z105_j14;refine Q.wrapOO fun Kb20 hKb20=>?_;refine Z105_l20_qe  Kb20 ?_ _ _ _ ⟨Nat.succ_pos _,by omega⟩;intro n20 s10_21 s14_22;refine Qe (hKb20 _) ?_;refine Q.wrapPO fun Kj16 hKj16=>?_;have hj16:∀(s10_17:(Sl Z3)),Z105_j16  s10_17=Kj16 s10_17:=by
    intro s10_17;refine Qe (hKj16 _) ?_;unfold Z105_j16;all_goals rfl
   all_goals exact hj16 _
  all_goals exact hj14 _
 refine Q.condO ?_ ?_
 ·refine Q.bindO rfl fun x67=>?_;all_goals exact hj12 _
 all_goals exact hj12 _
def Z110_q30 (a0:TDoc) (a1:TDef):List Z4->(Sl Z3)->Option ((Sl Z3))
 | [],s5_31=>some s5_31
 | h30::r30,s5_31=>on (h30) fun x38=>(Z105_q a0 a1 x38).bind fun x39=>(appC 24 s5_31 x39).bind fun x40=>Z110_q30 a0 a1 (r30) x40
theorem Z110_l30_qe {a0:TDoc}{a1:TDef}{s6_9:Nat}{x28:(TDef×Bool)}{k_next_7:(Sl Z3)->Nat->Option (Sl Z3)}  (Kb30:((Sl Z3))->Option (Sl Z3)) (hend:∀(n30:Nat) (s5_31:(Sl Z3)) (s10_32:Nat),Z110_j14 s6_9 k_next_7 s5_31=Kb30 s5_31):∀(n30:Nat) (s5_31:(Sl Z3)) (s10_32:Nat),(0<n30/\x28.1.FFields.l.length<s10_32+n30)->Z110_l30 a0 a1 s6_9 x28 k_next_7 n30 s5_31 s10_32=Option.bind (Z110_q30 a0 a1 (x28.1.FFields.l.drop s10_32) s5_31) Kb30:=by
 intro n30;induction n30 with
 | zero=>intro s5_31 s10_32 hn; exact absurd hn.1 (by omega)
 | succ n30 ih30 =>
  intro s5_31 s10_32 hn;rw [Z110_l30];by_cases hlt:s10_32<x28.1.FFields.l.length
  ·obtain⟨h30,hh30⟩:=Qa hlt;rw [Q.drop_of hh30,Z110_q30];refine QT hlt ?_;refine Q.bindPO hh30 fun x38 hx_x38=>?_;refine Q.bindO (Z105_eq _ _ _) fun x39=>?_;refine Q.bindO rfl fun x40=>?_;all_goals exact ih30 _ _ ⟨by omega,by omega⟩
  rw [dL (by omega),Z110_q30];refine QF hlt ?_;exact hend n30 s5_31 s10_32
def Z110_q7 (a0:TDoc) (a1:TDef):List Bs->Nat->(Sl Z3)->Option ((Sl Z3))
 | [],s6_9,s5_8=>some s5_8
 | h7::r7,s6_9,s5_8=>on (h7) fun x17=>on (Z108_q a0 x17 (2:Int)) fun x18=>on (bif (decide (x18=(0:Int))) then(⟨a1.FImplements.nl,a1.FImplements.l.take s6_9⟩:Sl Bs) else(Sl.nil:Sl Bs)) fun x42=>on (bif (decide (x18=(0:Int))) then h7 else([]:Bs)) fun x43=>on (bif (decide (x18=(0:Int))) then Z107_q x42 x43 else false) fun x44=>on (bif ((decide (x18=(0:Int)))&&x44) then((7:Int)) else(x18)) fun s7_20=>Option.bind (bif (!decide (s7_20=(0:Int))) then((appC 24 s5_8 (⟨false,[(Z3.mk s7_20 a1.FName)]⟩:Sl Z3)).bind fun x25=>some x25) else(on (h7) fun x27=>on (Z84_q a0 x27) fun x28=>Option.bind (Z110_q30 a0 a1 x28.1.FFields.l s5_8) fun s5_31=>some s5_31)) fun s5_15=>Z110_q7 a0 a1 (r7) (s6_9+1) s5_15
theorem Z110_l7_qe {a0:TDoc}{a1:TDef}  (Kb7:((Sl Z3))->Option (Sl Z3)) (hend:∀(n7:Nat) (s5_8:(Sl Z3)) (s6_9:Nat),Z110_j3   s5_8=Kb7 s5_8):∀(n7:Nat) (s5_8:(Sl Z3)) (s6_9:Nat),(0<n7/\a1.FImplements.l.length<s6_9+n7)->Z110_l7 a0 a1 n7 s5_8 s6_9=Option.bind (Z110_q7 a0 a1 (a1.FImplements.l.drop s6_9) s6_9 s5_8) Kb7:=by
 intro n7;induction n7 with
 | zero=>intro s5_8 s6_9 hn; exact absurd hn.1 (by omega)
 | succ n7 ih7 =>
  intro s5_8 s6_9 hn;rw [Z110_l7];by_cases hlt:s6_9<a1.FImplements.l.length
  ·obtain⟨h7,hh7⟩:=Qa hlt;rw [Q.drop_of hh7,Z110_q7];refine QT hlt ?_;refine Q.bindPO hh7 fun x17 hx_x17=>?_;refine Q.bindPO (Z108_eq _ _ _) fun x18 hx_x18=>?_;refine Q.guardPO (Q.partC_take (by omega)) fun x42 hx_x42=>?_;refine Q.guardPO hh7 fun x43 hx_x43=>?_;refine Q.guardPO (Z107_eq _ _) fun x44 hx_x44=>?_;refine Q.wrapPO fun Kj19 hKj19=>?_;have hj19:∀(s7_20:Int),Z110_j19 a0 a1 s5_8 s6_9 (Z110_l7 a0 a1 n7) s7_20=Kj19 s7_20:=by
    intro s7_20;refine Qe (hKj19 _) ?_;unfold Z110_j19;refine Q.wrapOO fun Kj14 hKj14=>?_;have hj14:∀(s5_15:(Sl Z3)),Z110_j14 s6_9 (Z110_l7 a0 a1 n7) s5_15=Kj14 s5_15:=by
     intro s5_15;refine Qe (hKj14 _) ?_;unfold Z110_j14;all_goals exact ih7 _ _ ⟨by omega,by omega⟩
    refine Q.condO ?_ ?_
    ·refine Q.bindO rfl fun x25=>?_;all_goals exact hj14 _
    refine Q.bindPO hh7 fun x27 hx_x27=>?_;refine Q.bindPO (Z84_eq _ _) fun x28 hx_x28=>?_;refine Q.wrapOO fun Kb30 hKb30=>?_;refine Z110_l30_qe  Kb30 ?_ _ _ _ ⟨Nat.succ_pos _,by omega⟩;intro n30 s5_31 s10_32;refine Qe (hKb30 _) ?_;all_goals exact hj14 _
   refine Q.condP ?_ ?_
   ·all_goals exact hj19 _
   all_goals exact hj19 _
  rw [dL (by omega),Z110_q7];refine QF hlt ?_;exact hend n7 s5_8 s6_9
def Z110_q (a0:TDoc) (a1:TDef):Option (Sl Z3):=Option.bind (Z110_q7 a0 a1 a1.FImplements.l 0 (Sl.nil:Sl Z3)) fun s5_8=>on (s5_8) fun s5_4=>some s5_4
theorem Z110_eq (a0:TDoc) (a1:TDef):Z110 a0 a1=Z110_q a0 a1:=by
 unfold Z110 Z110_q;refine Qs ?_;refine Q.wrapOO fun Kb7 hKb7=>?_;refine Z110_l7_qe  Kb7 ?_ _ _ _ ⟨Nat.succ_pos _,by omega⟩;intro n7 s5_8 s6_9;refine Qe (hKb7 _) ?_;refine Q.wrapPO fun Kj3 hKj3=>?_;have hj3:∀(s5_4:(Sl Z3)),Z110_j3  s5_4=Kj3 s5_4:=by
  intro s5_4;refine Qe (hKj3 _) ?_;unfold Z110_j3;all_goals rfl
 all_goals exact hj3 _
def Z111_q7 (a0:TDoc) (a1:TDef):List Z6->Nat->(Sl Z3)->Option ((Sl Z3))
 | [],s6_9,s5_8=>some s5_8
 | h7::r7,s6_9,s5_8=>on (h7) fun x17=>on (Z108_q a0 x17.FName (1:Int)) fun x19=>on (bif (decide (x19=(0:Int))) then(⟨a1.FMembers.nl,a1.FMembers.l.take s6_9⟩:Sl Z6) else(Sl.nil:Sl Z6)) fun x28=>on (bif (decide (x19=(0:Int))) then Z109_q (TDef.mk (0:Int) ([]:Bs) (Sl.nil:Sl Bs) (Sl.nil:Sl TDir) (Sl.nil:Sl Z4) x28 (Sl.nil:Sl Z5)) x17.FName else false) fun x29=>on (bif ((decide (x19=(0:Int)))&&x29) then((7:Int)) else(x19)) fun s8_21=>Option.bind (bif (!decide (s8_21=(0:Int))) then((catC a1.FName ([46]:Bs)).bind fun x24=>(catC x24 x17.FName).bind fun x25=>(appC 24 s5_8 (⟨false,[(Z3.mk s8_21 x25)]⟩:Sl Z3)).bind fun x26=>some x26) else(some s5_8)) fun s5_15=>Z111_q7 a0 a1 (r7) (s6_9+1) s5_15
theorem Z111_l7_qe {a0:TDoc}{a1:TDef}  (Kb7:((Sl Z3))->Option (Sl Z3)) (hend:∀(n7:Nat) (s5_8:(Sl Z3)) (s6_9:Nat),Z111_j3   s5_8=Kb7 s5_8):∀(n7:Nat) (s5_8:(Sl Z3)) (s6_9:Nat),(0<n7/\a1.FMembers.l.length<s6_9+n7)->Z111_l7 a0 a1 n7 s5_8 s6_9=Option.bind (Z111_q7 a0 a1 (a1.FMembers.l.drop s6_9) s6_9 s5_8) Kb7:=by
 intro n7;induction n7 with
 | zero=>intro s5_8 s6_9 hn; exact absurd hn.1 (by omega)
 | succ n7 ih7 =>
  intro s5_8 s6_9 hn;rw [Z111_l7];by_cases hlt:s6_9<a1.FMembers.l.length
  ·obtain⟨h7,hh7⟩:=Qa hlt;rw [Q.drop_of hh7,Z111_q7];refine QT hlt ?_;refine Q.bindPO hh7 fun x17 hx_x17=>?_;refine Q.bindPO (Z108_eq _ _ _) fun x19 hx_x19=>?_;refine Q.guardPO (Q.partC_take (by omega)) fun x28 hx_x28=>?_;refine Q.guardPO (Z109_eq _ _) fun x29 hx_x29=>?_;refine Q.wrapPO fun Kj20 hKj20=>?_;have hj20:∀(s8_21:Int),Z111_j20 a1 s5_8 s6_9 x17 (Z111_l7 a0 a1 n7) s8_21=Kj20 s8_21:=by
    intro s8_21;refine Qe (hKj20 _) ?_;unfold Z111_j20;refine Q.wrapOO fun Kj14 hKj14=>?_;have hj14:∀(s5_15:(Sl Z3)),Z111_j14 s6_9 (Z111_l7 a0 a1 n7) s5_15=Kj14 s5_15:=by
     intro s5_15;refine Qe (hKj14 _) ?_;unfold Z111_j14;all_goals exact ih7 _ _ ⟨by omega,by omega⟩
    refine Q.condO ?_ ?_
    ·refine Q.bindO rfl fun x24=>?_;refine Q.bindO rfl fun x25=>?_;refine Q.bindO rfl fun x26=>?_;all_goals exact hj14 _
    all_goals exact hj14 _
   refine Q.condP ?_ ?_
   ·all_goals exact hj20 _
   all_goals exact hj20 _
  rw [dL (by omega),Z111_q7];refine QF hlt ?_;exact hend n7 s5_8 s6_9
def Z111_q (a0:TDoc) (a1:TDef):Option (Sl Z3):=Option.bind (Z111_q7 a0 a1 a1.FMembers.l 0 (Sl.nil:Sl Z3)) fun s5_8=>on (s5_8) fun s5_4=>some s5_4
theorem Z111_eq (a0:TDoc) (a1:TDef):Z111 a0 a1=Z111_q a0 a1:=by
 unfold Z111 Z111_q;refine Qs ?_;refine Q.wrapOO fun Kb7 hKb7=>?_;refine Z111_l7_qe  Kb7 ?_ _ _ _ ⟨Nat.succ_pos _,by omega⟩;intro n7 s5_8 s6_9;refine Qe (hKb7 _) ?_;refine Q.wrapPO fun Kj3 hKj3=>?_;have hj3:∀(s5_4:(Sl Z3)),Z111_j3  s5_4=Kj3 s5_4:=by
  intro s5_4;refine Qe (hKj3 _) ?_;unfold Z111_j3;all_goals rfl
 all_goals exact hj3 _
def Z101_q7 (a0:TDoc):List TDef->(Sl Z3)->Option ((Sl Z3))
 | [],s3_8=>some s3_8
 | h7::r7,s3_8=>on (h7) fun x17=>Option.bind (bif (decide (x17.FKind=(1:Int))) then(on (h7) fun x20=>(Z110_q a0 x20).bind fun x21=>(appC 24 s3_8 x21).bind fun x22=>some x22) else(bif (decide (x17.FKind=(3:Int))) then(on (h7) fun x25=>(Z111_q a0 x25).bind fun x26=>(appC 24 s3_8 x26).bind fun x27=>some x27) else(some s3_8))) fun s3_15=>Z101_q7 a0 (r7) s3_15
theorem Z101_l7_qe {a0:TDoc}  (Kb7:((Sl Z3))->Option (Sl Z3)) (hend:∀(n7:Nat) (s3_8:(Sl Z3)) (s4_9:Nat),Z101_j3   s3_8=Kb7 s3_8):∀(n7:Nat) (s3_8:(Sl Z3)) (s4_9:Nat),(0<n7/\a0.FDefs.l.length<s4_9+n7)->Z101_l7 a0 n7 s3_8 s4_9=Option.bind (Z101_q7 a0 (a0.FDefs.l.drop s4_9) s3_8) Kb7:=by
 intro n7;induction n7 with
 | zero=>intro s3_8 s4_9 hn; exact absurd hn.1 (by omega)
 | succ n7 ih7 =>
  intro s3_8 s4_9 hn;rw [Z101_l7];by_cases hlt:s4_9<a0.FDefs.l.length
  ·obtain⟨h7,hh7⟩:=Qa hlt;rw [Q.drop_of hh7,Z101_q7];refine QT hlt ?_;refine Q.bindPO hh7 fun x17 hx_x17=>?_;refine Q.wrapOO fun Kj14 hKj14=>?_;have hj14:∀(s3_15:(Sl Z3)),Z101_j14 s4_9 (Z101_l7 a0 n7) s3_15=Kj14 s3_15:=by
    intro s3_15;refine Qe (hKj14 _) ?_;unfold Z101_j14;all_goals exact ih7 _ _ ⟨by omega,by omega⟩
   refine Q.condO ?_ ?_
   ·refine Q.bindPO hh7 fun x20 hx_x20=>?_;refine Q.bindO (Z110_eq _ _) fun x21=>?_;refine Q.bindO rfl fun x22=>?_;all_goals exact hj14 _
   refine Q.condO ?_ ?_
   ·refine Q.bindPO hh7 fun x25 hx_x25=>?_;refine Q.bindO (Z111_eq _ _) fun x26=>?_;refine Q.bindO rfl fun x27=>?_;all_goals exact hj14 _
   all_goals exact hj14 _
  rw [dL (by omega),Z101_q7];refine QF hlt ?_;exact hend n7 s3_8 s4_9
def Z101_q (a0:TDoc):Option (Sl Z3):=Option.bind (Z101_q7 a0 a0.FDefs.l (Sl.nil:Sl Z3)) fun s3_8=>on (s3_8) fun s3_4=>some s3_4
theorem Z101_eq (a0:TDoc):Z101 a0=Z101_q a0:=by
 unfold Z101 Z101_q;refine Qs ?_;refine Q.wrapOO fun Kb7 hKb7=>?_;refine Z101_l7_qe  Kb7 ?_ _ _ _ ⟨Nat.succ_pos _,by omega⟩;intro n7 s3_8 s4_9;refine Qe (hKb7 _) ?_;refine Q.wrapPO fun Kj3 hKj3=>?_;have hj3:∀(s3_4:(Sl Z3)),Z101_j3  s3_4=Kj3 s3_4:=by
  intro s3_4;refine Qe (hKj3 _) ?_;unfold Z101_j3;all_goals rfl
 all_goals exact hj3 _
def Z32_q (a0:TDoc):Option Bool:=(Z60_q a0 (600:Int)).bind fun x3=>guardO (((decide (x3<=(600:Int)))&&!(decide (((a0.FDefs.l.length:Nat):Int)=(0:Int))))) (Z59_q a0) false fun x4=>guardO (((decide (x3<=(600:Int)))&&((decide (((a0.FDefs.l.length:Nat):Int)=(0:Int)))||x4))) (Z82_q a0 false) (Sl.nil:Sl Z3) fun x5=>guardO ((((decide (x3<=(600:Int)))&&((decide (((a0.FDefs.l.length:Nat):Int)=(0:Int)))||x4))&&(decide (((x5.l.length:Nat):Int)=(0:Int))))) (Z101_q a0) (Sl.nil:Sl Z3) fun x6=>some ((((decide (x3<=(600:Int)))&&((decide (((a0.FDefs.l.length:Nat):Int)=(0:Int)))||x4))&&(decide (((x5.l.length:Nat):Int)=(0:Int))))&&(decide (((x6.l.length:Nat):Int)=(0:Int))))
theorem Z32_eq (a0:TDoc):Z32 a0=Z32_q a0:=by
 unfold Z32 Z32_q;refine Qs ?_;refine Q.bindO (Z60_eq _ _) fun x3=>?_;refine Q.guardOO (Z59_eq _) fun x4=>?_;refine Q.guardOO (Z82_eq _ _) fun x5=>?_;refine Q.guardOO (Z101_eq _) fun x6=>?_;all_goals rfl
def Z115_q7 (a1:Bs):List TDef->Unit ⊕ ((TDef×Bool))
 | []=>Sum.inl ()
 | h7::r7=>on (h7) fun x15=>bif ((x15.FName==a1)) then(Sum.inr (x15,true)) else(Z115_q7 a1 (r7) )
theorem Z115_l7_qe {a0:TDoc}{a1:Bs}  (Kb7:(Unit ⊕ ((TDef×Bool)))->Option (TDef×Bool)) (hend:∀(n7:Nat) (s11_8:Nat) (y9_l0:TDef),Z115_j2   y9_l0=Kb7 (Sum.inl ())) (hret:∀e:(TDef×Bool),some e=Kb7 (Sum.inr e)):∀(n7:Nat) (s11_8:Nat) (y9_l0:TDef),(0<n7/\a0.FDefs.l.length<s11_8+n7)->Z115_l7 a0 a1 n7 s11_8 y9_l0=Kb7 (Z115_q7 a1 (a0.FDefs.l.drop s11_8) ):=by
 intro n7;induction n7 with
 | zero=>intro s11_8 y9_l0 hn; exact absurd hn.1 (by omega)
 | succ n7 ih7 =>
  intro s11_8 y9_l0 hn;rw [Z115_l7];by_cases hlt:s11_8<a0.FDefs.l.length
  ·obtain⟨h7,hh7⟩:=Qa hlt;rw [Q.drop_of hh7,Z115_q7];refine QT hlt ?_;refine Q.bindP hh7 fun x15 hx_x15=>?_;refine Q.condP ?_ ?_
   ·all_goals exact hret _
   all_goals exact ih7 _ _ ⟨by omega,by omega⟩
  rw [dL (by omega),Z115_q7];refine QF hlt ?_;exact hend n7 s11_8 y9_l0
def Z115_q (a0:TDoc) (a1:Bs):(TDef×Bool):=on (Z115_q7 a1 a0.FDefs.l ) fun o7=>match o7 with|Sum.inl _=>(on (()) fun _=>((TDef.mk (0:Int) ([]:Bs) (Sl.nil:Sl Bs) (Sl.nil:Sl TDir) (Sl.nil:Sl Z4) (Sl.nil:Sl Z6) (Sl.nil:Sl Z5)),false))|Sum.inr e7=>(e7)
theorem Z115_eq (a0:TDoc) (a1:Bs):Z115 a0 a1=some (Z115_q a0 a1):=by
 unfold Z115 Z115_q;refine Q.wrapPP fun Kb7 hKb7=>?_;refine Z115_l7_qe  Kb7 ?_ ?_ _ _ _ ⟨Nat.succ_pos _,by omega⟩
 ·intro n7 s11_8 y9_l0;refine Qe (hKb7 _) ?_;try dsimp only
  refine Q.wrapPP fun Kj2 hKj2=>?_;have hj2:∀(y3_l0:TDef),Z115_j2  y3_l0=Kj2 ():=by
   intro y3_l0;refine Qe (hKj2 _) ?_;unfold Z115_j2;all_goals rfl
  all_goals exact hj2 _
 intro e7;refine Qe (hKb7 _) ?_;try dsimp only
 all_goals rfl
def Z13_q (a0:Z0) (a1:Int) (a2:Bs) (a3:Bs) (a4:Bs) (a5:Bs):Option Z0:=(appC 88 a0.Fout (⟨false,[(Z2.mk a1 a0.Fname a2 a3 a4 a5)]⟩:Sl Z2)).bind fun x1=>some (Z0.mk a0.Fname x1)
theorem Z13_eq (a0:Z0) (a1:Int) (a2:Bs) (a3:Bs) (a4:Bs) (a5:Bs):Z13 a0 a1 a2 a3 a4 a5=Z13_q a0 a1 a2 a3 a4 a5:=by
 unfold Z13 Z13_q;refine Qs ?_;refine Q.bindO rfl fun x1=>?_;all_goals rfl
def Z20_q (a0:Int):Bs:=bif (decide (a0=(1:Int))) then(([116,121,112,101]:Bs)) else(bif (decide (a0=(2:Int))) then(([105,110,116,101,114,102,97,99,101]:Bs)) else(bif (decide (a0=(3:Int))) then(([117,110,105,111,110]:Bs)) else(bif (decide (a0=(4:Int))) then(([101,110,117,109]:Bs)) else(([105,110,112,117,116]:Bs)))))
theorem Z20_eq (a0:Int):Z20 a0=some (Z20_q a0):=by
 unfold Z20 Z20_q;refine Q.condP ?_ ?_
 ·all_goals rfl
 refine Q.condP ?_ ?_
 ·all_goals rfl
 refine Q.condP ?_ ?_
 ·all_goals rfl
 refine Q.condP ?_ ?_
 ·all_goals rfl
 all_goals rfl
def Z123_q12 (a1:(Sl Int)):List Int->Nat->Option (Unit ⊕ Bool)
 | [],s13_13=>some (Sum.inl ())
 | h12::r12,s13_13=>on (h12) fun x20=>(a1.l[s13_13]?).bind fun x21=>bif (!decide (x20=x21)) then(some (Sum.inr false)) else(Z123_q12 a1 (r12) (s13_13+1) )
theorem Z123_l12_qe {a0:(Sl Int)}{a1:(Sl Int)}  (Kb12:(Unit ⊕ Bool)->Option Bool) (hend:∀(n12:Nat) (s13_13:Nat),Z123_j8   =Kb12 (Sum.inl ())) (hret:∀e:Bool,some e=Kb12 (Sum.inr e)):∀(n12:Nat) (s13_13:Nat),(0<n12/\a0.l.length<s13_13+n12)->Z123_l12 a0 a1 n12 s13_13=Option.bind (Z123_q12 a1 (a0.l.drop s13_13) s13_13 ) Kb12:=by
 intro n12;induction n12 with
 | zero=>intro s13_13 hn; exact absurd hn.1 (by omega)
 | succ n12 ih12 =>
  intro s13_13 hn;rw [Z123_l12];by_cases hlt:s13_13<a0.l.length
  ·obtain⟨h12,hh12⟩:=Qa hlt;rw [Q.drop_of hh12,Z123_q12];refine QT hlt ?_;refine Q.bindPO hh12 fun x20 hx_x20=>?_;refine Q.bindO rfl fun x21=>?_;refine Q.condO ?_ ?_
   ·all_goals exact hret _
   all_goals exact ih12 _ ⟨by omega,by omega⟩
  rw [dL (by omega),Z123_q12];refine QF hlt ?_;exact hend n12 s13_13
def Z123_q (a0:(Sl Int)) (a1:(Sl Int)):Option Bool:=bif (!decide (((a0.l.length:Nat):Int)=((a1.l.length:Nat):Int))) then(some false) else(Option.bind (Z123_q12 a1 a0.l 0 ) fun o12=>match o12 with|Sum.inl _=>(on (()) fun _=>some true)|Sum.inr e12=>(some e12))
theorem Z123_eq (a0:(Sl Int)) (a1:(Sl Int)):Z123 a0 a1=Z123_q a0 a1:=by
 unfold Z123 Z123_q;refine Qs ?_;refine Q.condO ?_ ?_
 ·all_goals rfl
 refine Q.wrapOO fun Kb12 hKb12=>?_;refine Z123_l12_qe  Kb12 ?_ ?_ _ _ ⟨Nat.succ_pos _,by omega⟩
 ·intro n12 s13_13;refine Qe (hKb12 _) ?_;try dsimp only
  refine Q.wrapPO fun Kj8 hKj8=>?_;have hj8:Z123_j8  =Kj8 ():=by
   refine Qe (hKj8 _) ?_;unfold Z123_j8;all_goals rfl
  all_goals exact hj8
 intro e12;refine Qe (hKb12 _) ?_;try dsimp only
 all_goals rfl
def Z156_q (a0:TRef) (a1:TRef):Option Bool:=guardO (((a0.FName==a1.FName))) (Z123_q a0.FWraps a1.FWraps) false fun x3=>some (((a0.FName==a1.FName))&&x3)
theorem Z156_eq (a0:TRef) (a1:TRef):Z156 a0 a1=Z156_q a0 a1:=by
 unfold Z156 Z156_q;refine Qs ?_;refine Q.guardOO (Z123_eq _ _) fun x3=>?_;all_goals rfl
def Z128_q (a0:Strings_Builder) (a1:Int):Option (Unit×Strings_Builder):=(Z130_q a0).bind fun x3=>(appC 1 x3.Fbuf (⟨false,[a1]⟩:Sl Int)).bind fun x5=>some ((),(Strings_Builder.mk x3.Faddr x5))
theorem Z128_eq (a0:Strings_Builder) (a1:Int):Z128 a0 a1=Z128_q a0 a1:=by
 unfold Z128 Z128_q;refine Qs ?_;refine Q.bindO (Z130_eq _) fun x3=>?_;refine Q.bindO rfl fun x5=>?_;all_goals rfl
def Z155_q (a0:TRef):Option Bs:=Z155 a0
theorem Z155_eq (a0:TRef):Z155 a0=Z155_q a0:=rfl
def Z116_q7 (a1:Bs):List Z5->Unit ⊕ ((Z5×Bool))
 | []=>Sum.inl ()
 | h7::r7=>on (h7) fun x15=>bif ((x15.FName==a1)) then(Sum.inr (x15,true)) else(Z116_q7 a1 (r7) )
theorem Z116_l7_qe {a0:(Sl Z5)}{a1:Bs}  (Kb7:(Unit ⊕ ((Z5×Bool)))->Option (Z5×Bool)) (hend:∀(n7:Nat) (s10_8:Nat) (y9_l0:Z5),Z116_j2   y9_l0=Kb7 (Sum.inl ())) (hret:∀e:(Z5×Bool),some e=Kb7 (Sum.inr e)):∀(n7:Nat) (s10_8:Nat) (y9_l0:Z5),(0<n7/\a0.l.length<s10_8+n7)->Z116_l7 a0 a1 n7 s10_8 y9_l0=Kb7 (Z116_q7 a1 (a0.l.drop s10_8) ):=by
 intro n7;induction n7 with
 | zero=>intro s10_8 y9_l0 hn; exact absurd hn.1 (by omega)
 | succ n7 ih7 =>
  intro s10_8 y9_l0 hn;rw [Z116_l7];by_cases hlt:s10_8<a0.l.length
  ·obtain⟨h7,hh7⟩:=Qa hlt;rw [Q.drop_of hh7,Z116_q7];refine QT hlt ?_;refine Q.bindP hh7 fun x15 hx_x15=>?_;refine Q.condP ?_ ?_
   ·all_goals exact hret _
   all_goals exact ih7 _ _ ⟨by omega,by omega⟩
  rw [dL (by omega),Z116_q7];refine QF hlt ?_;exact hend n7 s10_8 y9_l0
def Z116_q (a0:(Sl Z5)) (a1:Bs):(Z5×Bool):=on (Z116_q7 a1 a0.l ) fun o7=>match o7 with|Sum.inl _=>(on (()) fun _=>((Z5.mk ([]:Bs) TRef.zero false Z7.zero (Sl.nil:Sl TDir)),false))|Sum.inr e7=>(e7)
theorem Z116_eq (a0:(Sl Z5)) (a1:Bs):Z116 a0 a1=some (Z116_q a0 a1):=by
 unfold Z116 Z116_q;refine Q.wrapPP fun Kb7 hKb7=>?_;refine Z116_l7_qe  Kb7 ?_ ?_ _ _ _ ⟨Nat.succ_pos _,by omega⟩
 ·intro n7 s10_8 y9_l0;refine Qe (hKb7 _) ?_;try dsimp only
  refine Q.wrapPP fun Kj2 hKj2=>?_;have hj2:∀(y3_l0:Z5),Z116_j2  y3_l0=Kj2 ():=by
   intro y3_l0;refine Qe (hKj2 _) ?_;unfold Z116_j2;all_goals rfl
  all_goals exact hj2 _
 intro e7;refine Qe (hKb7 _) ?_;try dsimp only
 all_goals rfl
def Z139_q (a0:Int):Option Bs:=(Z126_q a0).bind fun x3=>some x3
theorem Z139_eq (a0:Int):Z139 a0=Z139_q a0:=by
 unfold Z139 Z139_q;refine Qs ?_;refine Q.bindO (Z126_eq _) fun x3=>?_;all_goals rfl
def Z129_q (a0:Strings_Builder) (a1:Bs):Option (Int×Unit×Strings_Builder):=(Z130_q a0).bind fun x3=>(appC 1 x3.Fbuf (strSl a1)).bind fun x5=>some (((a1.length:Nat):Int),(),(Strings_Builder.mk x3.Faddr x5))
theorem Z129_eq (a0:Strings_Builder) (a1:Bs):Z129 a0 a1=Z129_q a0 a1:=by
 unfold Z129 Z129_q;refine Qs ?_;refine Q.bindO (Z130_eq _) fun x3=>?_;refine Q.bindO rfl fun x5=>?_;all_goals rfl
def Z141_q15 :List UInt8->Strings_Builder->Option (Strings_Builder)
 | [],y17_id3_3=>some y17_id3_3
 | h15::r15,y17_id3_3=>on (h15) fun x25=>on (bif (decide (((x25.toNat:Nat):Int)=(34:Int))) then((decide (((x25.toNat:Nat):Int)=(34:Int)))) else((decide (((x25.toNat:Nat):Int)=(92:Int))))) fun s33_28=>Option.bind (bif s33_28 then((Z128_q y17_id3_3 (92:Int)).bind fun x31=>(Z128_q x31.2 ((x25.toNat:Nat):Int)).bind fun x32=>some x32.2) else(bif (decide (((x25.toNat:Nat):Int)=(10:Int))) then((Z129_q y17_id3_3 ([92,110]:Bs)).bind fun x35=>some x35.2.2) else(bif (decide (((x25.toNat:Nat):Int)=(13:Int))) then((Z129_q y17_id3_3 ([92,114]:Bs)).bind fun x38=>some x38.2.2) else(bif (decide (((x25.toNat:Nat):Int)=(9:Int))) then((Z129_q y17_id3_3 ([92,116]:Bs)).bind fun x41=>some x41.2.2) else(bif ((decide ((32:Int)<=((x25.toNat:Nat):Int)))&&(decide (((x25.toNat:Nat):Int)<=(126:Int)))) then((Z128_q y17_id3_3 ((x25.toNat:Nat):Int)).bind fun x46=>some x46.2) else((Z129_q y17_id3_3 ([92,117,48,48]:Bs)).bind fun x48=>(idxC ([48,49,50,51,52,53,54,55,56,57,97,98,99,100,101,102]:Bs) (Int.fdiv ((x25.toNat:Nat):Int) (2 ^ (min (Int.toNat 4) (IntKind.bits .u8))))).bind fun x50=>(Z128_q x48.2.2 ((x50.toNat:Nat):Int)).bind fun x51=>(idxC ([48,49,50,51,52,53,54,55,56,57,97,98,99,100,101,102]:Bs) (IntKind.wrap .u8 ((BitVec.ofInt (IntKind.bits .u8) ((x25.toNat:Nat):Int) &&& BitVec.ofInt (IntKind.bits .u8) (15:Int)).toNat:Int))).bind fun x52=>(Z128_q x51.2 ((x52.toNat:Nat):Int)).bind fun x53=>some x53.2)))))) fun y22_id3_3=>Z141_q15  (r15) y22_id3_3
theorem Z141_l15_qe {a0:Bs}  (Kb15:(Strings_Builder)->Option Bs) (hend:∀(n15:Nat) (s9_16:Nat) (y17_id3_3:Strings_Builder),Z141_j7   y17_id3_3=Kb15 y17_id3_3):∀(n15:Nat) (s9_16:Nat) (y17_id3_3:Strings_Builder),(0<n15/\a0.length<s9_16+n15)->Z141_l15 a0 n15 s9_16 y17_id3_3=Option.bind (Z141_q15  (a0.drop s9_16) y17_id3_3) Kb15:=by
 intro n15;induction n15 with
 | zero=>intro s9_16 y17_id3_3 hn; exact absurd hn.1 (by omega)
 | succ n15 ih15 =>
  intro s9_16 y17_id3_3 hn;rw [Z141_l15];by_cases hlt:s9_16<a0.length
  ·obtain⟨h15,hh15⟩:=Qa hlt;rw [Q.drop_of hh15,Z141_q15];refine QT hlt ?_;refine Q.bindPO hh15 fun x25 hx_x25=>?_;refine Q.wrapPO fun Kj27 hKj27=>?_;have hj27:∀(s33_28:Bool),Z141_j27 s9_16 y17_id3_3 x25 (Z141_l15 a0 n15) s33_28=Kj27 s33_28:=by
    intro s33_28;refine Qe (hKj27 _) ?_;unfold Z141_j27;refine Q.wrapOO fun Kj21 hKj21=>?_;have hj21:∀(y22_id3_3:Strings_Builder),Z141_j21 s9_16 (Z141_l15 a0 n15) y22_id3_3=Kj21 y22_id3_3:=by
     intro y22_id3_3;refine Qe (hKj21 _) ?_;unfold Z141_j21;all_goals exact ih15 _ _ ⟨by omega,by omega⟩
    refine Q.condO ?_ ?_
    ·refine Q.bindO (Z128_eq _ _) fun x31=>?_;refine Q.bindO (Z128_eq _ _) fun x32=>?_;all_goals exact hj21 _
    refine Q.condO ?_ ?_
    ·refine Q.bindO (Z129_eq _ _) fun x35=>?_;all_goals exact hj21 _
    refine Q.condO ?_ ?_
    ·refine Q.bindO (Z129_eq _ _) fun x38=>?_;all_goals exact hj21 _
    refine Q.condO ?_ ?_
    ·refine Q.bindO (Z129_eq _ _) fun x41=>?_;all_goals exact hj21 _
    refine Q.condO ?_ ?_
    ·refine Q.bindO (Z128_eq _ _) fun x46=>?_;all_goals exact hj21 _
    refine Q.bindO (Z129_eq _ _) fun x48=>?_;refine Q.bindO rfl fun x50=>?_;refine Q.bindO (Z128_eq _ _) fun x51=>?_;refine Q.bindO rfl fun x52=>?_;refine Q.bindO (Z128_eq _ _) fun x53=>?_;all_goals exact hj21 _
   refine Q.condP ?_ ?_
   ·all_goals exact hj27 _
   all_goals exact hj27 _
  rw [dL (by omega),Z141_q15];refine QF hlt ?_;exact hend n15 s9_16 y17_id3_3
def Z141_q (a0:Bs):Option Bs:=(Z128_q Strings_Builder.zero (34:Int)).bind fun x6=>Option.bind (Z141_q15  a0 x6.2) fun y17_id3_3=>on (y17_id3_3) fun y8_id3_3=>(Z128_q y8_id3_3 (34:Int)).bind fun x10=>(Z127_q x10.2).bind fun x12=>some x12
theorem Z141_eq (a0:Bs):Z141 a0=Z141_q a0:=by
 unfold Z141 Z141_q;refine Qs ?_;refine Q.bindO (Z128_eq _ _) fun x6=>?_;refine Q.wrapOO fun Kb15 hKb15=>?_;refine Z141_l15_qe  Kb15 ?_ _ _ _ ⟨Nat.succ_pos _,by omega⟩;intro n15 s9_16 y17_id3_3;refine Qe (hKb15 _) ?_;refine Q.wrapPO fun Kj7 hKj7=>?_;have hj7:∀(y8_id3_3:Strings_Builder),Z141_j7  y8_id3_3=Kj7 y8_id3_3:=by
  intro y8_id3_3;refine Qe (hKj7 _) ?_;unfold Z141_j7;refine Q.bindO (Z128_eq _ _) fun x10=>?_;refine Q.bindO (Z127_eq _) fun x12=>?_;all_goals rfl
 all_goals exact hj7 _
def Z12_q (a0:Z5):Option Bs:=bif (!a0.FHas) then(some ([]:Bs)) else((Z117 a0.FDefault).bind fun x7=>some x7)
theorem Z12_eq (a0:Z5):Z12 a0=Z12_q a0:=by
 unfold Z12 Z12_q;refine Qs ?_;refine Q.condO ?_ ?_
 ·all_goals rfl
 refine Q.bindO rfl fun x7=>?_;all_goals rfl
def Z19_q (a0:Z5):Option Bs:=bif (!a0.FHas) then((Z155_q a0.FType).bind fun x6=>some x6) else((Z155_q a0.FType).bind fun x8=>(catC x8 ([32,61,32]:Bs)).bind fun x9=>(Z12_q a0).bind fun x10=>(catC x9 x10).bind fun x11=>some x11)
theorem Z19_eq (a0:Z5):Z19 a0=Z19_q a0:=by
 unfold Z19 Z19_q;refine Qs ?_;refine Q.condO ?_ ?_
 ·refine Q.bindO (Z155_eq _) fun x6=>?_;all_goals rfl
 refine Q.bindO (Z155_eq _) fun x8=>?_;refine Q.bindO rfl fun x9=>?_;refine Q.bindO (Z12_eq _) fun x10=>?_;refine Q.bindO rfl fun x11=>?_;all_goals rfl
def Z162_q (a0:Z7) (a1:Z7):Option Bool:=(Z161 a0 a1).bind fun x3=>some (decide (x3=(0:Int)))
theorem Z162_eq (a0:Z7) (a1:Z7):Z162 a0 a1=Z162_q a0 a1:=by
 unfold Z162 Z162_q;refine Qs ?_;refine Q.bindO rfl fun x3=>?_;all_goals rfl

def Z18_q26m (a2:(Sl Z5)) (a3:Z1) (a4:(Bs->Option (Bs×Bs))):List Z5->Z0->Option (Z0)
 | [],y28_c0=>some y28_c0
 | h26::r26,y28_c0=>on (h26) fun x35=>(a4 x35.FName).bind fun x37=>on (Z116_q a2 x35.FName) fun x39=>Option.bind (bif (!x39.2) then((Z19_q x35).bind fun x44=>(Z13_q y28_c0 a3.Fgone x37.1 x37.2 x44 ([]:Bs)).bind fun x45=>some x45) else((Z156_q x35.FType x39.1.FType).bind fun x55=>Option.bind (bif (!x55) then((Z155_q x35.FType).bind fun x57=>(Z155_q x39.1.FType).bind fun x58=>(Z13_q y28_c0 a3.Ftyp x37.1 x37.2 x57 x58).bind fun x59=>some x59) else(some y28_c0)) fun y47_c0=>guardO ((!(!(x35.FHas==x39.1.FHas))&&x35.FHas)) (Z162_q x35.FDefault x39.1.FDefault) false fun x49=>bif ((!(x35.FHas==x39.1.FHas))||(x35.FHas&&(!x49))) then((Z12_q x35).bind fun x51=>(Z12_q x39.1).bind fun x52=>(Z13_q y47_c0 a3.Fdef x37.1 x37.2 x51 x52).bind fun x53=>some x53) else(some y47_c0))) fun y33_c0=>Z18_q26m a2 a3 a4 (r26) y33_c0
theorem Z18_l26_qem {a1:(Sl Z5)}{a2:(Sl Z5)}{a3:Z1}{a4:(Bs->Option (Bs×Bs))}  (Kb26:(Z0)->Option Z0) (hend:∀(n26:Nat) (s24_27:Nat) (y28_c0:Z0),Z18_j2 a1 a2 a3 a4  y28_c0=Kb26 y28_c0):∀(n26:Nat) (s24_27:Nat) (y28_c0:Z0),(0<n26/\a1.l.length<s24_27+n26)->Z18_l26 a1 a2 a3 a4 n26 s24_27 y28_c0=Option.bind (Z18_q26m a2 a3 a4 (a1.l.drop s24_27) y28_c0) Kb26:=by
 intro n26;induction n26 with
 | zero=>intro s24_27 y28_c0 hn; exact absurd hn.1 (by omega)
 | succ n26 ih26 =>
  intro s24_27 y28_c0 hn;rw [Z18_l26];by_cases hlt:s24_27<a1.l.length
  ·obtain⟨h26,hh26⟩:=Qa hlt;rw [Q.drop_of hh26,Z18_q26m];refine QT hlt ?_;refine Q.bindPO hh26 fun x35 hx_x35=>?_;refine Q.bindO rfl fun x37=>?_;refine Q.bindPO (Z116_eq _ _) fun x39 hx_x39=>?_;refine Q.wrapOO fun Kj32 hKj32=>?_;have hj32:∀(y33_c0:Z0),Z18_j32 s24_27 (Z18_l26 a1 a2 a3 a4 n26) y33_c0=Kj32 y33_c0:=by
    intro y33_c0;refine Qe (hKj32 _) ?_;unfold Z18_j32;all_goals exact ih26 _ _ ⟨by omega,by omega⟩
   refine Q.condO ?_ ?_
   ·refine Q.bindO (Z19_eq _) fun x44=>?_;refine Q.bindO (Z13_eq _ _ _ _ _ _) fun x45=>?_;all_goals exact hj32 _
   refine Q.bindO (Z156_eq _ _) fun x55=>?_;refine Q.wrapOO fun Kj46 hKj46=>?_;have hj46:∀(y47_c0:Z0),Z18_j46 a3 s24_27 x35 x37 x39 (Z18_l26 a1 a2 a3 a4 n26) y47_c0=Kj46 y47_c0:=by
    intro y47_c0;refine Qe (hKj46 _) ?_;unfold Z18_j46;refine Q.guardOO (Z162_eq _ _) fun x49=>?_;refine Q.condO ?_ ?_
    ·refine Q.bindO (Z12_eq _) fun x51=>?_;refine Q.bindO (Z12_eq _) fun x52=>?_;refine Q.bindO (Z13_eq _ _ _ _ _ _) fun x53=>?_;all_goals exact hj32 _
    all_goals exact hj32 _
   refine Q.condO ?_ ?_
   ·refine Q.bindO (Z155_eq _) fun x57=>?_;refine Q.bindO (Z155_eq _) fun x58=>?_;refine Q.bindO (Z13_eq _ _ _ _ _ _) fun x59=>?_;all_goals exact hj46 _
   all_goals exact hj46 _
  rw [dL (by omega),Z18_q26m];refine QF hlt ?_;exact hend n26 s24_27 y28_c0
def Z18_q6m (a1:(Sl Z5)) (a3:Z1) (a4:(Bs->Option (Bs×Bs))):List Z5->Z0->Option (Z0)
 | [],y8_c0=>some y8_c0
 | h6::r6,y8_c0=>on (h6) fun x15=>on (Z116_q a1 x15.FName) fun x17=>Option.bind (bif (!x17.2) then((a4 x15.FName).bind fun x21=>(Z19_q x15).bind fun x22=>(Z13_q y8_c0 a3.Fadd x21.1 x21.2 ([]:Bs) x22).bind fun x23=>some x23) else(some y8_c0)) fun y13_c0=>Z18_q6m a1 a3 a4 (r6) y13_c0
theorem Z18_l6_qem {a1:(Sl Z5)}{a2:(Sl Z5)}{a3:Z1}{a4:(Bs->Option (Bs×Bs))}  (Kb6:(Z0)->Option Z0) (hend:∀(n6:Nat) (s100_7:Nat) (y8_c0:Z0),some y8_c0=Kb6 y8_c0):∀(n6:Nat) (s100_7:Nat) (y8_c0:Z0),(0<n6/\a2.l.length<s100_7+n6)->Z18_l6 a1 a2 a3 a4 n6 s100_7 y8_c0=Option.bind (Z18_q6m a1 a3 a4 (a2.l.drop s100_7) y8_c0) Kb6:=by
 intro n6;induction n6 with
 | zero=>intro s100_7 y8_c0 hn; exact absurd hn.1 (by omega)
 | succ n6 ih6 =>
  intro s100_7 y8_c0 hn;rw [Z18_l6];by_cases hlt:s100_7<a2.l.length
  ·obtain⟨h6,hh6⟩:=Qa hlt;rw [Q.drop_of hh6,Z18_q6m];refine QT hlt ?_;refine Q.bindPO hh6 fun x15 hx_x15=>?_;refine Q.bindPO (Z116_eq _ _) fun x17 hx_x17=>?_;refine Q.wrapOO fun Kj12 hKj12=>?_;have hj12:∀(y13_c0:Z0),Z18_j12 s100_7 (Z18_l6 a1 a2 a3 a4 n6) y13_c0=Kj12 y13_c0:=by
    intro y13_c0;refine Qe (hKj12 _) ?_;unfold Z18_j12;all_goals exact ih6 _ _ ⟨by omega,by omega⟩
   refine Q.condO ?_ ?_
   ·refine Q.bindO rfl fun x21=>?_;refine Q.bindO (Z19_eq _) fun x22=>?_;refine Q.bindO (Z13_eq _ _ _ _ _ _) fun x23=>?_;all_goals exact hj12 _
   all_goals exact hj12 _
  rw [dL (by omega),Z18_q6m];refine QF hlt ?_;exact hend n6 s100_7 y8_c0
def Z18_qm (a0:Z0) (a1:(Sl Z5)) (a2:(Sl Z5)) (a3:Z1) (a4:(Bs->Option (Bs×Bs))):Option Z0:=Option.bind (Z18_q26m a2 a3 a4 a1.l a0) fun y28_c0=>on (y28_c0) fun y3_c0=>Option.bind (Z18_q6m a1 a3 a4 a2.l y3_c0) fun y8_c0=>some y8_c0
theorem Z18_eqm (a0:Z0) (a1:(Sl Z5)) (a2:(Sl Z5)) (a3:Z1) (a4:(Bs->Option (Bs×Bs))):Z18 a0 a1 a2 a3 a4=Z18_qm a0 a1 a2 a3 a4:=by
 unfold Z18 Z18_qm;refine Qs ?_;refine Q.wrapOO fun Kb26 hKb26=>?_;refine Z18_l26_qem  Kb26 ?_ _ _ _ ⟨Nat.succ_pos _,by omega⟩;intro n26 s24_27 y28_c0;refine Qe (hKb26 _) ?_;refine Q.wrapPO fun Kj2 hKj2=>?_;have hj2:∀(y3_c0:Z0),Z18_j2 a1 a2 a3 a4 y3_c0=Kj2 y3_c0:=by
  intro y3_c0;refine Qe (hKj2 _) ?_;unfold Z18_j2;refine Q.wrapOO fun Kb6 hKb6=>?_;refine Z18_l6_qem  Kb6 ?_ _ _ _ ⟨Nat.succ_pos _,by omega⟩;intro n6 s100_7 y8_c0;refine Qe (hKb6 _) ?_;all_goals rfl
 all_goals exact hj2 _
def Z114_q7 (a1:Bs):List Z4->Unit ⊕ ((Z4×Bool))
 | []=>Sum.inl ()
 | h7::r7=>on (h7) fun x15=>bif ((x15.FName==a1)) then(Sum.inr (x15,true)) else(Z114_q7 a1 (r7) )
theorem Z114_l7_qe {a0:TDef}{a1:Bs}  (Kb7:(Unit ⊕ ((Z4×Bool)))->Option (Z4×Bool)) (hend:∀(n7:Nat) (s11_8:Nat) (y9_l0:Z4),Z114_j2   y9_l0=Kb7 (Sum.inl ())) (hret:∀e:(Z4×Bool),some e=Kb7 (Sum.inr e)):∀(n7:Nat) (s11_8:Nat) (y9_l0:Z4),(0<n7/\a0.FFields.l.length<s11_8+n7)->Z114_l7 a0 a1 n7 s11_8 y9_l0=Kb7 (Z114_q7 a1 (a0.FFields.l.drop s11_8) ):=by
 intro n7;induction n7 with
 | zero=>intro s11_8 y9_l0 hn; exact absurd hn.1 (by omega)
 | succ n7 ih7 =>
  intro s11_8 y9_l0 hn;rw [Z114_l7];by_cases hlt:s11_8<a0.FFields.l.length
  ·obtain⟨h7,hh7⟩:=Qa hlt;rw [Q.drop_of hh7,Z114_q7];refine QT hlt ?_;refine Q.bindP hh7 fun x15 hx_x15=>?_;refine Q.condP ?_ ?_
   ·all_goals exact hret _
   all_goals exact ih7 _ _ ⟨by omega,by omega⟩
  rw [dL (by omega),Z114_q7];refine QF hlt ?_;exact hend n7 s11_8 y9_l0
def Z114_q (a0:TDef) (a1:Bs):(Z4×Bool):=on (Z114_q7 a1 a0.FFields.l ) fun o7=>match o7 with|Sum.inl _=>(on (()) fun _=>((Z4.mk ([]:Bs) (Sl.nil:Sl Z5) TRef.zero (Sl.nil:Sl TDir)),false))|Sum.inr e7=>(e7)
theorem Z114_eq (a0:TDef) (a1:Bs):Z114 a0 a1=some (Z114_q a0 a1):=by
 unfold Z114 Z114_q;refine Q.wrapPP fun Kb7 hKb7=>?_;refine Z114_l7_qe  Kb7 ?_ ?_ _ _ _ ⟨Nat.succ_pos _,by omega⟩
 ·intro n7 s11_8 y9_l0;refine Qe (hKb7 _) ?_;try dsimp only
  refine Q.wrapPP fun Kj2 hKj2=>?_;have hj2:∀(y3_l0:Z4),Z114_j2  y3_l0=Kj2 ():=by
   intro y3_l0;refine Qe (hKj2 _) ?_;unfold Z114_j2;all_goals rfl
  all_goals exact hj2 _
 intro e7;refine Qe (hKb7 _) ?_;try dsimp only
 all_goals rfl
def Z17_q (a0:Bs) (a1:Z4):(Bs×Bs):=(a1.FName,a0)
theorem Z17_eq (a0:Bs) (a1:Z4):Z17 a0 a1=some (Z17_q a0 a1):=by
 unfold Z17 Z17_q;all_goals rfl
def Z16_q24 (a2:TDef):List Z4->Z0->Option (Z0)
 | [],y26_c0=>some y26_c0
 | h24::r24,y26_c0=>on (h24) fun x33=>on (Z114_q a2 x33.FName) fun x35=>Option.bind (bif (!x35.2) then((Z155_q x33.FType).bind fun x40=>(Z13_q y26_c0 (4:Int) x33.FName ([]:Bs) x40 ([]:Bs)).bind fun x41=>some x41) else((Z156_q x33.FType x35.1.FType).bind fun x46=>Option.bind (bif (!x46) then((Z155_q x33.FType).bind fun x48=>(Z155_q x35.1.FType).bind fun x49=>(Z13_q y26_c0 (6:Int) x33.FName ([]:Bs) x48 x49).bind fun x50=>some x50) else(some y26_c0)) fun y43_c0=>(Z18_qm y43_c0 x33.FArgs x35.1.FArgs (Z1.mk (7:Int) (8:Int) (9:Int) (10:Int)) (fun y0=>some (Z17_q y0 x33))).bind fun x44=>some x44)) fun y31_c0=>Z16_q24 a2 (r24) y31_c0
theorem Z16_l24_qe {a1:TDef}{a2:TDef}  (Kb24:(Z0)->Option Z0) (hend:∀(n24:Nat) (s17_25:Nat) (y26_c0:Z0),Z16_j2 a1 a2  y26_c0=Kb24 y26_c0):∀(n24:Nat) (s17_25:Nat) (y26_c0:Z0),(0<n24/\a1.FFields.l.length<s17_25+n24)->Z16_l24 a1 a2 n24 s17_25 y26_c0=Option.bind (Z16_q24 a2 (a1.FFields.l.drop s17_25) y26_c0) Kb24:=by
 intro n24;induction n24 with
 | zero=>intro s17_25 y26_c0 hn; exact absurd hn.1 (by omega)
 | succ n24 ih24 =>
  intro s17_25 y26_c0 hn;rw [Z16_l24];by_cases hlt:s17_25<a1.FFields.l.length
  ·obtain⟨h24,hh24⟩:=Qa hlt;rw [Q.drop_of hh24,Z16_q24];refine QT hlt ?_;refine Q.bindPO hh24 fun x33 hx_x33=>?_;refine Q.bindPO (Z114_eq _ _) fun x35 hx_x35=>?_;refine Q.wrapOO fun Kj30 hKj30=>?_;have hj30:∀(y31_c0:Z0),Z16_j30 s17_25 (Z16_l24 a1 a2 n24) y31_c0=Kj30 y31_c0:=by
    intro y31_c0;refine Qe (hKj30 _) ?_;unfold Z16_j30;all_goals exact ih24 _ _ ⟨by omega,by omega⟩
   refine Q.condO ?_ ?_
   ·refine Q.bindO (Z155_eq _) fun x40=>?_;refine Q.bindO (Z13_eq _ _ _ _ _ _) fun x41=>?_;all_goals exact hj30 _
   refine Q.bindO (Z156_eq _ _) fun x46=>?_;refine Q.wrapOO fun Kj42 hKj42=>?_;have hj42:∀(y43_c0:Z0),Z16_j42 s17_25 x33 x35 (Z16_l24 a1 a2 n24) y43_c0=Kj42 y43_c0:=by
    intro y43_c0;refine Qe (hKj42 _) ?_;unfold Z16_j42;refine Q.bindO (by simp only [Z17_eq,Z18_eqm]) fun x44=>?_;all_goals exact hj30 _
   refine Q.condO ?_ ?_
   ·refine Q.bindO (Z155_eq _) fun x48=>?_;refine Q.bindO (Z155_eq _) fun x49=>?_;refine Q.bindO (Z13_eq _ _ _ _ _ _) fun x50=>?_;all_goals exact hj42 _
   all_goals exact hj42 _
  rw [dL (by omega),Z16_q24];refine QF hlt ?_;exact hend n24 s17_25 y26_c0
def Z16_q6 (a1:TDef):List Z4->Z0->Option (Z0)
 | [],y8_c0=>some y8_c0
 | h6::r6,y8_c0=>on (h6) fun x15=>on (Z114_q a1 x15.FName) fun x17=>Option.bind (bif (!x17.2) then((Z155_q x15.FType).bind fun x20=>(Z13_q y8_c0 (5:Int) x15.FName ([]:Bs) ([]:Bs) x20).bind fun x21=>some x21) else(some y8_c0)) fun y13_c0=>Z16_q6 a1 (r6) y13_c0
theorem Z16_l6_qe {a1:TDef}{a2:TDef}  (Kb6:(Z0)->Option Z0) (hend:∀(n6:Nat) (s65_7:Nat) (y8_c0:Z0),some y8_c0=Kb6 y8_c0):∀(n6:Nat) (s65_7:Nat) (y8_c0:Z0),(0<n6/\a2.FFields.l.length<s65_7+n6)->Z16_l6 a1 a2 n6 s65_7 y8_c0=Option.bind (Z16_q6 a1 (a2.FFields.l.drop s65_7) y8_c0) Kb6:=by
 intro n6;induction n6 with
 | zero=>intro s65_7 y8_c0 hn; exact absurd hn.1 (by omega)
 | succ n6 ih6 =>
  intro s65_7 y8_c0 hn;rw [Z16_l6];by_cases hlt:s65_7<a2.FFields.l.length
  ·obtain⟨h6,hh6⟩:=Qa hlt;rw [Q.drop_of hh6,Z16_q6];refine QT hlt ?_;refine Q.bindPO hh6 fun x15 hx_x15=>?_;refine Q.bindPO (Z114_eq _ _) fun x17 hx_x17=>?_;refine Q.wrapOO fun Kj12 hKj12=>?_;have hj12:∀(y13_c0:Z0),Z16_j12 s65_7 (Z16_l6 a1 a2 n6) y13_c0=Kj12 y13_c0:=by
    intro y13_c0;refine Qe (hKj12 _) ?_;unfold Z16_j12;all_goals exact ih6 _ _ ⟨by omega,by omega⟩
   refine Q.condO ?_ ?_
   ·refine Q.bindO (Z155_eq _) fun x20=>?_;refine Q.bindO (Z13_eq _ _ _ _ _ _) fun x21=>?_;all_goals exact hj12 _
   all_goals exact hj12 _
  rw [dL (by omega),Z16_q6];refine QF hlt ?_;exact hend n6 s65_7 y8_c0
def Z16_q (a0:Z0) (a1:TDef) (a2:TDef):Option Z0:=Option.bind (Z16_q24 a2 a1.FFields.l a0) fun y26_c0=>on (y26_c0) fun y3_c0=>Option.bind (Z16_q6 a1 a2.FFields.l y3_c0) fun y8_c0=>some y8_c0
theorem Z16_eq (a0:Z0) (a1:TDef) (a2:TDef):Z16 a0 a1 a2=Z16_q a0 a1 a2:=by
 unfold Z16 Z16_q;refine Qs ?_;refine Q.wrapOO fun Kb24 hKb24=>?_;refine Z16_l24_qe  Kb24 ?_ _ _ _ ⟨Nat.succ_pos _,by omega⟩;intro n24 s17_25 y26_c0;refine Qe (hKb24 _) ?_;refine Q.wrapPO fun Kj2 hKj2=>?_;have hj2:∀(y3_c0:Z0),Z16_j2 a1 a2 y3_c0=Kj2 y3_c0:=by
  intro y3_c0;refine Qe (hKj2 _) ?_;unfold Z16_j2;refine Q.wrapOO fun Kb6 hKb6=>?_;refine Z16_l6_qe  Kb6 ?_ _ _ _ ⟨Nat.succ_pos _,by omega⟩;intro n6 s65_7 y8_c0;refine Qe (hKb6 _) ?_;all_goals rfl
 all_goals exact hj2 _
end Go.Proofs

namespace Go.Proofs
open Go Go.Ab
def Z23_q8 :List Z6->(Sl Bs)->Option ((Sl Bs))
 | [],s3_9=>some s3_9
 | h8::r8,s3_9=>on (h8) fun x16=>(appC 16 s3_9 (⟨false,[x16.FName]⟩:Sl Bs)).bind fun x17=>Z23_q8  (r8) x17
theorem Z23_l8_qe {a0:(Sl Z6)}  (Kb8:((Sl Bs))->Option (Sl Bs)) (hend:∀(n8:Nat) (s3_9:(Sl Bs)) (s8_10:Nat),Z23_j3   s3_9=Kb8 s3_9):∀(n8:Nat) (s3_9:(Sl Bs)) (s8_10:Nat),(0<n8/\a0.l.length<s8_10+n8)->Z23_l8 a0 n8 s3_9 s8_10=Option.bind (Z23_q8  (a0.l.drop s8_10) s3_9) Kb8:=by
 intro n8;induction n8 with
 | zero=>intro s3_9 s8_10 hn; exact absurd hn.1 (by omega)
 | succ n8 ih8 =>
  intro s3_9 s8_10 hn;rw [Z23_l8];by_cases hlt:s8_10<a0.l.length
  ·obtain⟨h8,hh8⟩:=Qa hlt;rw [Q.drop_of hh8,Z23_q8];refine QT hlt ?_;refine Q.bindPO hh8 fun x16 hx_x16=>?_;refine Q.bindO rfl fun x17=>?_;all_goals exact ih8 _ _ ⟨by omega,by omega⟩
  rw [dL (by omega),Z23_q8];refine QF hlt ?_;exact hend n8 s3_9 s8_10
def Z23_q (a0:(Sl Z6)):Option (Sl Bs):=Option.bind (Z23_q8  a0.l (Sl.nil:Sl Bs)) fun s3_9=>on (s3_9) fun s3_4=>some s3_4
theorem Z23_eq (a0:(Sl Z6)):Z23 a0=Z23_q a0:=by
 unfold Z23 Z23_q;refine Qs ?_;refine Q.wrapOO fun Kb8 hKb8=>?_;refine Z23_l8_qe  Kb8 ?_ _ _ _ ⟨Nat.succ_pos _,by omega⟩;intro n8 s3_9 s8_10;refine Qe (hKb8 _) ?_;refine Q.wrapPO fun Kj3 hKj3=>?_;have hj3:∀(s3_4:(Sl Bs)),Z23_j3  s3_4=Kj3 s3_4:=by
  intro s3_4;refine Qe (hKj3 _) ?_;unfold Z23_j3;all_goals rfl
 all_goals exact hj3 _
def Z119_q (a0:(Sl Bs)):Option (Sl Bs):=bif a0.nl then(some (Sl.nil:Sl Bs)) else((appC 16 (⟨false,[]⟩:Sl Bs) a0).bind fun x7=>some x7)
theorem Z119_eq (a0:(Sl Bs)):Z119 a0=Z119_q a0:=by
 unfold Z119 Z119_q;refine Qs ?_;refine Q.condO ?_ ?_
 ·all_goals rfl
 refine Q.bindO rfl fun x7=>?_;all_goals rfl
def Z124_q6 (a1:Bs):List Bs->Nat->Unit ⊕ Int
 | [],s8_7=>Sum.inl ()
 | h6::r6,s8_7=>on (h6) fun x14=>bif ((a1==x14)) then(Sum.inr ((s8_7:Nat):Int)) else(Z124_q6 a1 (r6) (s8_7+1) )
theorem Z124_l6_qe {a0:(Sl Bs)}{a1:Bs}  (Kb6:(Unit ⊕ Int)->Option Int) (hend:∀(n6:Nat) (s8_7:Nat),Z124_j2   =Kb6 (Sum.inl ())) (hret:∀e:Int,some e=Kb6 (Sum.inr e)):∀(n6:Nat) (s8_7:Nat),(0<n6/\a0.l.length<s8_7+n6)->Z124_l6 a0 a1 n6 s8_7=Kb6 (Z124_q6 a1 (a0.l.drop s8_7) s8_7 ):=by
 intro n6;induction n6 with
 | zero=>intro s8_7 hn; exact absurd hn.1 (by omega)
 | succ n6 ih6 =>
  intro s8_7 hn;rw [Z124_l6];by_cases hlt:s8_7<a0.l.length
  ·obtain⟨h6,hh6⟩:=Qa hlt;rw [Q.drop_of hh6,Z124_q6];refine QT hlt ?_;refine Q.bindP hh6 fun x14 hx_x14=>?_;refine Q.condP ?_ ?_
   ·all_goals exact hret _
   all_goals exact ih6 _ ⟨by omega,by omega⟩
  rw [dL (by omega),Z124_q6];refine QF hlt ?_;exact hend n6 s8_7
def Z124_q (a0:(Sl Bs)) (a1:Bs):Int:=on (Z124_q6 a1 a0.l 0 ) fun o6=>match o6 with|Sum.inl _=>(on (()) fun _=>(-1:Int))|Sum.inr e6=>(e6)
theorem Z124_eq (a0:(Sl Bs)) (a1:Bs):Z124 a0 a1=some (Z124_q a0 a1):=by
 unfold Z124 Z124_q;refine Q.wrapPP fun Kb6 hKb6=>?_;refine Z124_l6_qe  Kb6 ?_ ?_ _ _ ⟨Nat.succ_pos _,by omega⟩
 ·intro n6 s8_7;refine Qe (hKb6 _) ?_;try dsimp only
  refine Q.wrapPP fun Kj2 hKj2=>?_;have hj2:Z124_j2  =Kj2 ():=by
   refine Qe (hKj2 _) ?_;unfold Z124_j2;all_goals rfl
  all_goals exact hj2
 intro e6;refine Qe (hKb6 _) ?_;try dsimp only
 all_goals rfl
def Z120_q (a0:(Sl Bs)) (a1:Bs):Bool:=on (Z124_q a0 a1) fun x3=>(decide ((0:Int)<=x3))
theorem Z120_eq (a0:(Sl Bs)) (a1:Bs):Z120 a0 a1=some (Z120_q a0 a1):=by
 unfold Z120 Z120_q;refine Q.bindP (Z124_eq _ _) fun x3 hx_x3=>?_;all_goals rfl
def Z22_q (a0:Bs) (a1:(Sl Bs)):Bool:=on (Z120_q a1 a0) fun x3=>x3
theorem Z22_eq (a0:Bs) (a1:(Sl Bs)):Z22 a0 a1=some (Z22_q a0 a1):=by
 unfold Z22 Z22_q;refine Q.bindP (Z120_eq _ _) fun x3 hx_x3=>?_;all_goals rfl
def Z21_q (a0:(Sl Bs)) (a1:(Sl Bs)):Option (Sl Bs):=(Z119_q a0).bind fun x3=>(some (delL (fun y0=>Z22 y0 a1) x3)).bind fun x4=>some x4
theorem Z21_eq (a0:(Sl Bs)) (a1:(Sl Bs)):Z21 a0 a1=Z21_q a0 a1:=by
 unfold Z21 Z21_q;refine Qs ?_;refine Q.bindO (Z119_eq _) fun x3=>?_;refine Q.bindO rfl fun x4=>?_;all_goals rfl
def Z14_q57 :List Bs->Z0->Option (Z0)
 | [],y59_c0=>some y59_c0
 | h57::r57,y59_c0=>on (h57) fun x65=>(Z13_q y59_c0 (11:Int) x65 ([]:Bs) ([]:Bs) ([]:Bs)).bind fun x66=>Z14_q57  (r57) x66
theorem Z14_l57_qe {a1:TDef}{a2:TDef}{x5:(Sl Bs)}{x6:(Sl Bs)}{x55:(Sl Bs)}  (Kb57:(Z0)->Option Z0) (hend:∀(n57:Nat) (s30_58:Nat) (y59_c0:Z0),Z14_j7 a1 a2 x5 x6  y59_c0=Kb57 y59_c0):∀(n57:Nat) (s30_58:Nat) (y59_c0:Z0),(0<n57/\x55.l.length<s30_58+n57)->Z14_l57 a1 a2 x5 x6 x55 n57 s30_58 y59_c0=Option.bind (Z14_q57  (x55.l.drop s30_58) y59_c0) Kb57:=by
 intro n57;induction n57 with
 | zero=>intro s30_58 y59_c0 hn; exact absurd hn.1 (by omega)
 | succ n57 ih57 =>
  intro s30_58 y59_c0 hn;rw [Z14_l57];by_cases hlt:s30_58<x55.l.length
  ·obtain⟨h57,hh57⟩:=Qa hlt;rw [Q.drop_of hh57,Z14_q57];refine QT hlt ?_;refine Q.bindPO hh57 fun x65 hx_x65=>?_;refine Q.bindO (Z13_eq _ _ _ _ _ _) fun x66=>?_;all_goals exact ih57 _ _ ⟨by omega,by omega⟩
  rw [dL (by omega),Z14_q57];refine QF hlt ?_;exact hend n57 s30_58 y59_c0
def Z14_q44 :List Bs->Z0->Option (Z0)
 | [],y46_c0=>some y46_c0
 | h44::r44,y46_c0=>on (h44) fun x52=>(Z13_q y46_c0 (12:Int) x52 ([]:Bs) ([]:Bs) ([]:Bs)).bind fun x53=>Z14_q44  (r44) x53
theorem Z14_l44_qe {a1:TDef}{a2:TDef}{x42:(Sl Bs)}  (Kb44:(Z0)->Option Z0) (hend:∀(n44:Nat) (s42_45:Nat) (y46_c0:Z0),Z14_j9 a1 a2  y46_c0=Kb44 y46_c0):∀(n44:Nat) (s42_45:Nat) (y46_c0:Z0),(0<n44/\x42.l.length<s42_45+n44)->Z14_l44 a1 a2 x42 n44 s42_45 y46_c0=Option.bind (Z14_q44  (x42.l.drop s42_45) y46_c0) Kb44:=by
 intro n44;induction n44 with
 | zero=>intro s42_45 y46_c0 hn; exact absurd hn.1 (by omega)
 | succ n44 ih44 =>
  intro s42_45 y46_c0 hn;rw [Z14_l44];by_cases hlt:s42_45<x42.l.length
  ·obtain⟨h44,hh44⟩:=Qa hlt;rw [Q.drop_of hh44,Z14_q44];refine QT hlt ?_;refine Q.bindPO hh44 fun x52 hx_x52=>?_;refine Q.bindO (Z13_eq _ _ _ _ _ _) fun x53=>?_;all_goals exact ih44 _ _ ⟨by omega,by omega⟩
  rw [dL (by omega),Z14_q44];refine QF hlt ?_;exact hend n44 s42_45 y46_c0
def Z14_q31 :List Bs->Z0->Option (Z0)
 | [],y33_c0=>some y33_c0
 | h31::r31,y33_c0=>on (h31) fun x39=>(Z13_q y33_c0 (17:Int) ([]:Bs) ([]:Bs) x39 ([]:Bs)).bind fun x40=>Z14_q31  (r31) x40
theorem Z14_l31_qe {a1:TDef}{a2:TDef}{x29:(Sl Bs)}  (Kb31:(Z0)->Option Z0) (hend:∀(n31:Nat) (s63_32:Nat) (y33_c0:Z0),Z14_j13 a1 a2  y33_c0=Kb31 y33_c0):∀(n31:Nat) (s63_32:Nat) (y33_c0:Z0),(0<n31/\x29.l.length<s63_32+n31)->Z14_l31 a1 a2 x29 n31 s63_32 y33_c0=Option.bind (Z14_q31  (x29.l.drop s63_32) y33_c0) Kb31:=by
 intro n31;induction n31 with
 | zero=>intro s63_32 y33_c0 hn; exact absurd hn.1 (by omega)
 | succ n31 ih31 =>
  intro s63_32 y33_c0 hn;rw [Z14_l31];by_cases hlt:s63_32<x29.l.length
  ·obtain⟨h31,hh31⟩:=Qa hlt;rw [Q.drop_of hh31,Z14_q31];refine QT hlt ?_;refine Q.bindPO hh31 fun x39 hx_x39=>?_;refine Q.bindO (Z13_eq _ _ _ _ _ _) fun x40=>?_;all_goals exact ih31 _ _ ⟨by omega,by omega⟩
  rw [dL (by omega),Z14_q31];refine QF hlt ?_;exact hend n31 s63_32 y33_c0
def Z14_q18 :List Bs->Z0->Option (Z0)
 | [],y20_c0=>some y20_c0
 | h18::r18,y20_c0=>on (h18) fun x26=>(Z13_q y20_c0 (18:Int) ([]:Bs) ([]:Bs) ([]:Bs) x26).bind fun x27=>Z14_q18  (r18) x27
theorem Z14_l18_qe {x16:(Sl Bs)}  (Kb18:(Z0)->Option Z0) (hend:∀(n18:Nat) (s77_19:Nat) (y20_c0:Z0),some y20_c0=Kb18 y20_c0):∀(n18:Nat) (s77_19:Nat) (y20_c0:Z0),(0<n18/\x16.l.length<s77_19+n18)->Z14_l18 x16 n18 s77_19 y20_c0=Option.bind (Z14_q18  (x16.l.drop s77_19) y20_c0) Kb18:=by
 intro n18;induction n18 with
 | zero=>intro s77_19 y20_c0 hn; exact absurd hn.1 (by omega)
 | succ n18 ih18 =>
  intro s77_19 y20_c0 hn;rw [Z14_l18];by_cases hlt:s77_19<x16.l.length
  ·obtain⟨h18,hh18⟩:=Qa hlt;rw [Q.drop_of hh18,Z14_q18];refine QT hlt ?_;refine Q.bindPO hh18 fun x26 hx_x26=>?_;refine Q.bindO (Z13_eq _ _ _ _ _ _) fun x27=>?_;all_goals exact ih18 _ _ ⟨by omega,by omega⟩
  rw [dL (by omega),Z14_q18];refine QF hlt ?_;exact hend n18 s77_19 y20_c0
def Z14_q (a0:Z0) (a1:TDef) (a2:TDef):Option Z0:=(Z16_q a0 a1 a2).bind fun x3=>(Z23_q a1.FMembers).bind fun x5=>(Z23_q a2.FMembers).bind fun x6=>(Z21_q x5 x6).bind fun x55=>Option.bind (Z14_q57  x55.l x3) fun y59_c0=>on (y59_c0) fun y8_c0=>(Z21_q x6 x5).bind fun x42=>Option.bind (Z14_q44  x42.l y8_c0) fun y46_c0=>on (y46_c0) fun y10_c0=>(Z18_qm y10_c0 a1.FInputs a2.FInputs (Z1.mk (13:Int) (14:Int) (15:Int) (16:Int)) Z15).bind fun x12=>(Z21_q a1.FImplements a2.FImplements).bind fun x29=>Option.bind (Z14_q31  x29.l x12) fun y33_c0=>on (y33_c0) fun y14_c0=>(Z21_q a2.FImplements a1.FImplements).bind fun x16=>Option.bind (Z14_q18  x16.l y14_c0) fun y20_c0=>some y20_c0
theorem Z14_eq (a0:Z0) (a1:TDef) (a2:TDef):Z14 a0 a1 a2=Z14_q a0 a1 a2:=by
 unfold Z14 Z14_q;refine Qs ?_;refine Q.bindO (Z16_eq _ _ _) fun x3=>?_;refine Q.bindO (Z23_eq _) fun x5=>?_;refine Q.bindO (Z23_eq _) fun x6=>?_;refine Q.bindO (Z21_eq _ _) fun x55=>?_;refine Q.wrapOO fun Kb57 hKb57=>?_;refine Z14_l57_qe  Kb57 ?_ _ _ _ ⟨Nat.succ_pos _,by omega⟩;intro n57 s30_58 y59_c0;refine Qe (hKb57 _) ?_;refine Q.wrapPO fun Kj7 hKj7=>?_;have hj7:∀(y8_c0:Z0),Z14_j7 a1 a2 x5 x6 y8_c0=Kj7 y8_c0:=by
  intro y8_c0;refine Qe (hKj7 _) ?_;unfold Z14_j7;refine Q.bindO (Z21_eq _ _) fun x42=>?_;refine Q.wrapOO fun Kb44 hKb44=>?_;refine Z14_l44_qe  Kb44 ?_ _ _ _ ⟨Nat.succ_pos _,by omega⟩;intro n44 s42_45 y46_c0;refine Qe (hKb44 _) ?_;refine Q.wrapPO fun Kj9 hKj9=>?_;have hj9:∀(y10_c0:Z0),Z14_j9 a1 a2 y10_c0=Kj9 y10_c0:=by
   intro y10_c0;refine Qe (hKj9 _) ?_;unfold Z14_j9;refine Q.bindO (by simp only [Z18_eqm]) fun x12=>?_;refine Q.bindO (Z21_eq _ _) fun x29=>?_;refine Q.wrapOO fun Kb31 hKb31=>?_;refine Z14_l31_qe  Kb31 ?_ _ _ _ ⟨Nat.succ_pos _,by omega⟩;intro n31 s63_32 y33_c0;refine Qe (hKb31 _) ?_;refine Q.wrapPO fun Kj13 hKj13=>?_;have hj13:∀(y14_c0:Z0),Z14_j13 a1 a2 y14_c0=Kj13 y14_c0:=by
    intro y14_c0;refine Qe (hKj13 _) ?_;unfold Z14_j13;refine Q.bindO (Z21_eq _ _) fun x16=>?_;refine Q.wrapOO fun Kb18 hKb18=>?_;refine Z14_l18_qe  Kb18 ?_ _ _ _ ⟨Nat.succ_pos _,by omega⟩;intro n18 s77_19 y20_c0;refine Qe (hKb18 _) ?_;all_goals rfl
   all_goals exact hj13 _
  all_goals exact hj9 _
 all_goals exact hj7 _
def Z10_q56 (a1:TDoc):List TDef->Z0->Option (Z0)
 | [],y58_id19_3=>some y58_id19_3
 | h56::r56,y58_id19_3=>on (h56) fun x65=>on (Z115_q a1 x65.FName) fun x68=>Option.bind (bif (!x68.2) then(on (Z20_q x65.FKind) fun x71=>(Z13_q (Z0.mk x65.FName y58_id19_3.Fout) (1:Int) ([]:Bs) ([]:Bs) x71 ([]:Bs)).bind fun x72=>some x72) else(some (Z0.mk x65.FName y58_id19_3.Fout))) fun y63_id19_3=>Z10_q56 a1 (r56) y63_id19_3
theorem Z10_l56_qe {a0:TDoc}{a1:TDoc}  (Kb56:(Z0)->Option (Sl Z2)) (hend:∀(n56:Nat) (s23_57:Nat) (y58_id19_3:Z0),Z10_j5 a0 a1  y58_id19_3=Kb56 y58_id19_3):∀(n56:Nat) (s23_57:Nat) (y58_id19_3:Z0),(0<n56/\a0.FDefs.l.length<s23_57+n56)->Z10_l56 a0 a1 n56 s23_57 y58_id19_3=Option.bind (Z10_q56 a1 (a0.FDefs.l.drop s23_57) y58_id19_3) Kb56:=by
 intro n56;induction n56 with
 | zero=>intro s23_57 y58_id19_3 hn; exact absurd hn.1 (by omega)
 | succ n56 ih56 =>
  intro s23_57 y58_id19_3 hn;rw [Z10_l56];by_cases hlt:s23_57<a0.FDefs.l.length
  ·obtain⟨h56,hh56⟩:=Qa hlt;rw [Q.drop_of hh56,Z10_q56];refine QT hlt ?_;refine Q.bindPO hh56 fun x65 hx_x65=>?_;refine Q.bindPO (Z115_eq _ _) fun x68 hx_x68=>?_;refine Q.wrapOO fun Kj62 hKj62=>?_;have hj62:∀(y63_id19_3:Z0),Z10_j62 s23_57 (Z10_l56 a0 a1 n56) y63_id19_3=Kj62 y63_id19_3:=by
    intro y63_id19_3;refine Qe (hKj62 _) ?_;unfold Z10_j62;all_goals exact ih56 _ _ ⟨by omega,by omega⟩
   refine Q.condO ?_ ?_
   ·refine Q.bindPO (Z20_eq _) fun x71 hx_x71=>?_;refine Q.bindO (Z13_eq _ _ _ _ _ _) fun x72=>?_;all_goals exact hj62 _
   all_goals exact hj62 _
  rw [dL (by omega),Z10_q56];refine QF hlt ?_;exact hend n56 s23_57 y58_id19_3
def Z10_q33 (a1:TDoc):List TDef->Z0->Option (Z0)
 | [],y35_id19_3=>some y35_id19_3
 | h33::r33,y35_id19_3=>on (h33) fun x42=>on (Z115_q a1 x42.FName) fun x45=>Option.bind (bif (!x45.2) then(some (Z0.mk x42.FName y35_id19_3.Fout)) else(bif (!decide (x42.FKind=x45.1.FKind)) then(on (Z20_q x42.FKind) fun x50=>on (Z20_q x45.1.FKind) fun x51=>(Z13_q (Z0.mk x42.FName y35_id19_3.Fout) (3:Int) ([]:Bs) ([]:Bs) x50 x51).bind fun x52=>some x52) else((Z14_q (Z0.mk x42.FName y35_id19_3.Fout) x42 x45.1).bind fun x53=>some x53))) fun y40_id19_3=>Z10_q33 a1 (r33) y40_id19_3
theorem Z10_l33_qe {a0:TDoc}{a1:TDoc}  (Kb33:(Z0)->Option (Sl Z2)) (hend:∀(n33:Nat) (s50_34:Nat) (y35_id19_3:Z0),Z10_j7 a0 a1  y35_id19_3=Kb33 y35_id19_3):∀(n33:Nat) (s50_34:Nat) (y35_id19_3:Z0),(0<n33/\a0.FDefs.l.length<s50_34+n33)->Z10_l33 a0 a1 n33 s50_34 y35_id19_3=Option.bind (Z10_q33 a1 (a0.FDefs.l.drop s50_34) y35_id19_3) Kb33:=by
 intro n33;induction n33 with
 | zero=>intro s50_34 y35_id19_3 hn; exact absurd hn.1 (by omega)
 | succ n33 ih33 =>
  intro s50_34 y35_id19_3 hn;rw [Z10_l33];by_cases hlt:s50_34<a0.FDefs.l.length
  ·obtain⟨h33,hh33⟩:=Qa hlt;rw [Q.drop_of hh33,Z10_q33];refine QT hlt ?_;refine Q.bindPO hh33 fun x42 hx_x42=>?_;refine Q.bindPO (Z115_eq _ _) fun x45 hx_x45=>?_;refine Q.wrapOO fun Kj39 hKj39=>?_;have hj39:∀(y40_id19_3:Z0),Z10_j39 s50_34 (Z10_l33 a0 a1 n33) y40_id19_3=Kj39 y40_id19_3:=by
    intro y40_id19_3;refine Qe (hKj39 _) ?_;unfold Z10_j39;all_goals exact ih33 _ _ ⟨by omega,by omega⟩
   refine Q.condO ?_ ?_
   ·all_goals exact hj39 _
   refine Q.condO ?_ ?_
   ·refine Q.bindPO (Z20_eq _) fun x50 hx_x50=>?_;refine Q.bindPO (Z20_eq _) fun x51 hx_x51=>?_;refine Q.bindO (Z13_eq _ _ _ _ _ _) fun x52=>?_;all_goals exact hj39 _
   refine Q.bindO (Z14_eq _ _ _) fun x53=>?_;all_goals exact hj39 _
  rw [dL (by omega),Z10_q33];refine QF hlt ?_;exact hend n33 s50_34 y35_id19_3
def Z10_q14 (a0:TDoc):List TDef->Z0->Option (Z0)
 | [],y16_id19_3=>some y16_id19_3
 | h14::r14,y16_id19_3=>on (h14) fun x23=>on (Z115_q a0 x23.FName) fun x26=>Option.bind (bif (!x26.2) then(on (Z20_q x23.FKind) fun x29=>(Z13_q (Z0.mk x23.FName y16_id19_3.Fout) (2:Int) ([]:Bs) ([]:Bs) ([]:Bs) x29).bind fun x30=>some x30) else(some (Z0.mk x23.FName y16_id19_3.Fout))) fun y21_id19_3=>Z10_q14 a0 (r14) y21_id19_3
theorem Z10_l14_qe {a0:TDoc}{a1:TDoc}  (Kb14:(Z0)->Option (Sl Z2)) (hend:∀(n14:Nat) (s91_15:Nat) (y16_id19_3:Z0),Z10_j9   y16_id19_3=Kb14 y16_id19_3):∀(n14:Nat) (s91_15:Nat) (y16_id19_3:Z0),(0<n14/\a1.FDefs.l.length<s91_15+n14)->Z10_l14 a0 a1 n14 s91_15 y16_id19_3=Option.bind (Z10_q14 a0 (a1.FDefs.l.drop s91_15) y16_id19_3) Kb14:=by
 intro n14;induction n14 with
 | zero=>intro s91_15 y16_id19_3 hn; exact absurd hn.1 (by omega)
 | succ n14 ih14 =>
  intro s91_15 y16_id19_3 hn;rw [Z10_l14];by_cases hlt:s91_15<a1.FDefs.l.length
  ·obtain⟨h14,hh14⟩:=Qa hlt;rw [Q.drop_of hh14,Z10_q14];refine QT hlt ?_;refine Q.bindPO hh14 fun x23 hx_x23=>?_;refine Q.bindPO (Z115_eq _ _) fun x26 hx_x26=>?_;refine Q.wrapOO fun Kj20 hKj20=>?_;have hj20:∀(y21_id19_3:Z0),Z10_j20 s91_15 (Z10_l14 a0 a1 n14) y21_id19_3=Kj20 y21_id19_3:=by
    intro y21_id19_3;refine Qe (hKj20 _) ?_;unfold Z10_j20;all_goals exact ih14 _ _ ⟨by omega,by omega⟩
   refine Q.condO ?_ ?_
   ·refine Q.bindPO (Z20_eq _) fun x29 hx_x29=>?_;refine Q.bindO (Z13_eq _ _ _ _ _ _) fun x30=>?_;all_goals exact hj20 _
   all_goals exact hj20 _
  rw [dL (by omega),Z10_q14];refine QF hlt ?_;exact hend n14 s91_15 y16_id19_3
def Z10_q (a0:TDoc) (a1:TDoc):Option (Sl Z2):=Option.bind (Z10_q56 a1 a0.FDefs.l (Z0.mk ([]:Bs) (Sl.nil:Sl Z2))) fun y58_id19_3=>on (y58_id19_3) fun y6_id19_3=>Option.bind (Z10_q33 a1 a0.FDefs.l y6_id19_3) fun y35_id19_3=>on (y35_id19_3) fun y8_id19_3=>Option.bind (Z10_q14 a0 a1.FDefs.l y8_id19_3) fun y16_id19_3=>on (y16_id19_3) fun y10_id19_3=>some y10_id19_3.Fout
theorem Z10_eq (a0:TDoc) (a1:TDoc):Z10 a0 a1=Z10_q a0 a1:=by
 unfold Z10 Z10_q;refine Qs ?_;refine Q.wrapOO fun Kb56 hKb56=>?_;refine Z10_l56_qe  Kb56 ?_ _ _ _ ⟨Nat.succ_pos _,by omega⟩;intro n56 s23_57 y58_id19_3;refine Qe (hKb56 _) ?_;refine Q.wrapPO fun Kj5 hKj5=>?_;have hj5:∀(y6_id19_3:Z0),Z10_j5 a0 a1 y6_id19_3=Kj5 y6_id19_3:=by
  intro y6_id19_3;refine Qe (hKj5 _) ?_;unfold Z10_j5;refine Q.wrapOO fun Kb33 hKb33=>?_;refine Z10_l33_qe  Kb33 ?_ _ _ _ ⟨Nat.succ_pos _,by omega⟩;intro n33 s50_34 y35_id19_3;refine Qe (hKb33 _) ?_;refine Q.wrapPO fun Kj7 hKj7=>?_;have hj7:∀(y8_id19_3:Z0),Z10_j7 a0 a1 y8_id19_3=Kj7 y8_id19_3:=by
   intro y8_id19_3;refine Qe (hKj7 _) ?_;unfold Z10_j7;refine Q.wrapOO fun Kb14 hKb14=>?_;refine Z10_l14_qe  Kb14 ?_ _ _ _ ⟨Nat.succ_pos _,by omega⟩;intro n14 s91_15 y16_id19_3;refine Qe (hKb14 _) ?_;refine Q.wrapPO fun Kj9 hKj9=>?_;have hj9:∀(y10_id19_3:Z0),Z10_j9  y10_id19_3=Kj9 y10_id19_3:=by
    intro y10_id19_3;refine Qe (hKj9 _) ?_;unfold Z10_j9;all_goals rfl
   all_goals exact hj9 _
  all_goals exact hj7 _
 all_goals exact hj5 _
def Z81_q11 (a1:(Sl Bs)):List Bs->Nat->Option (Unit ⊕ Bool)
 | [],s5_12=>some (Sum.inl ())
 | h11::r11,s5_12=>on (h11) fun x19=>(a1.l[s5_12]?).bind fun x20=>bif (!(x19==x20)) then(some (Sum.inr false)) else(Z81_q11 a1 (r11) (s5_12+1) )
theorem Z81_l11_qe {a0:(Sl Bs)}{a1:(Sl Bs)}  (Kb11:(Unit ⊕ Bool)->Option Bool) (hend:∀(n11:Nat) (s5_12:Nat),Z81_j8   =Kb11 (Sum.inl ())) (hret:∀e:Bool,some e=Kb11 (Sum.inr e)):∀(n11:Nat) (s5_12:Nat),(0<n11/\a0.l.length<s5_12+n11)->Z81_l11 a0 a1 n11 s5_12=Option.bind (Z81_q11 a1 (a0.l.drop s5_12) s5_12 ) Kb11:=by
 intro n11;induction n11 with
 | zero=>intro s5_12 hn; exact absurd hn.1 (by omega)
 | succ n11 ih11 =>
  intro s5_12 hn;rw [Z81_l11];by_cases hlt:s5_12<a0.l.length
  ·obtain⟨h11,hh11⟩:=Qa hlt;rw [Q.drop_of hh11,Z81_q11];refine QT hlt ?_;refine Q.bindPO hh11 fun x19 hx_x19=>?_;refine Q.bindO rfl fun x20=>?_;refine Q.condO ?_ ?_
   ·all_goals exact hret _
   all_goals exact ih11 _ ⟨by omega,by omega⟩
  rw [dL (by omega),Z81_q11];refine QF hlt ?_;exact hend n11 s5_12
def Z81_q (a0:(Sl Bs)) (a1:(Sl Bs)):Option Bool:=bif (!decide (((a0.l.length:Nat):Int)=((a1.l.length:Nat):Int))) then(some false) else(Option.bind (Z81_q11 a1 a0.l 0 ) fun o11=>match o11 with|Sum.inl _=>(on (()) fun _=>some true)|Sum.inr e11=>(some e11))
theorem Z81_eq (a0:(Sl Bs)) (a1:(Sl Bs)):Z81 a0 a1=Z81_q a0 a1:=by
 unfold Z81 Z81_q;refine Qs ?_;refine Q.condO ?_ ?_
 ·all_goals rfl
 refine Q.wrapOO fun Kb11 hKb11=>?_;refine Z81_l11_qe  Kb11 ?_ ?_ _ _ ⟨Nat.succ_pos _,by omega⟩
 ·intro n11 s5_12;refine Qe (hKb11 _) ?_;try dsimp only
  refine Q.wrapPO fun Kj8 hKj8=>?_;have hj8:Z81_j8  =Kj8 ():=by
   refine Qe (hKj8 _) ?_;unfold Z81_j8;all_goals rfl
  all_goals exact hj8
 intro e11;refine Qe (hKb11 _) ?_;try dsimp only
 all_goals rfl
def Z44_q (a0:Int) (a1:Int):Int:=bif (decide (a0<a1)) then((-1:Int)) else(bif (decide (a1<a0)) then((1:Int)) else((0:Int)))
theorem Z44_eq (a0:Int) (a1:Int):Z44 a0 a1=some (Z44_q a0 a1):=by
 unfold Z44 Z44_q;refine Q.condP ?_ ?_
 ·all_goals rfl
 refine Q.condP ?_ ?_
 ·all_goals rfl
 all_goals rfl
def Z47_q (a0:Bs) (a1:Bs):Int:=bif (Op.bytesLess a0 a1) then((-1:Int)) else(bif (!(Op.bytesLess a0 a1||a0==a1)) then((1:Int)) else((0:Int)))
theorem Z47_eq (a0:Bs) (a1:Bs):Z47 a0 a1=some (Z47_q a0 a1):=by
 unfold Z47 Z47_q;refine Q.condP ?_ ?_
 ·all_goals rfl
 refine Q.condP ?_ ?_
 ·all_goals rfl
 all_goals rfl
def Z45_q (a0:Z7) (a1:Int):Option Bs:=bif (decide (a1<((a0.FKeys.l.length:Nat):Int))) then((idxC a0.FKeys.l a1).bind fun x7=>some x7) else(some ([]:Bs))
theorem Z45_eq (a0:Z7) (a1:Int):Z45 a0 a1=Z45_q a0 a1:=by
 unfold Z45 Z45_q;refine Qs ?_;refine Q.condO ?_ ?_
 ·refine Q.bindO rfl fun x7=>?_;all_goals rfl
 all_goals rfl
def Z41_q (a0:Z7) (a1:Z7):Option Bool:=(Z38 a0 a1).bind fun x3=>some (decide (x3=(0:Int)))
theorem Z41_eq (a0:Z7) (a1:Z7):Z41 a0 a1=Z41_q a0 a1:=by
 unfold Z41 Z41_q;refine Qs ?_;refine Q.bindO rfl fun x3=>?_;all_goals rfl
def Z72_q27 (a1:(Sl TDir)) (s5_12:Nat) (h11:TDir):List TArg->Nat->Option (Unit ⊕ Bool)
 | [],s6_28=>some (Sum.inl ())
 | h27::r27,s6_28=>on (h11) fun x36=>on (h27) fun x37=>(a1.l[s5_12]?).bind fun x38=>(x38.FArgs.l[s6_28]?).bind fun x39=>on (bif !(!(x37.FName==x39.FName)) then h11 else TDir.zero) fun x40=>guardO (!(!(x37.FName==x39.FName))) (x40.FArgs.l[s6_28]?) TArg.zero fun x41=>guardO (!(!(x37.FName==x39.FName))) (a1.l[s5_12]?) TDir.zero fun x42=>guardO (!(!(x37.FName==x39.FName))) (x42.FArgs.l[s6_28]?) TArg.zero fun x43=>guardO (!(!(x37.FName==x39.FName))) (Z41_q x41.FValue x43.FValue) false fun x44=>bif ((!(x37.FName==x39.FName))||(!x44)) then(some (Sum.inr false)) else(Z72_q27 a1 s5_12 h11 (r27) (s6_28+1) )
theorem Z72_l27_qe {a0:(Sl TDir)}{a1:(Sl TDir)}{s5_12:Nat}{k_next_11:Nat->Option Bool}{h11:TDir}(hh11:a0.l[s5_12]?=some h11) (Kb27:(Unit ⊕ Bool)->Option Bool) (hend:∀(n27:Nat) (s6_28:Nat),Z72_j17 s5_12 k_next_11 =Kb27 (Sum.inl ())) (hret:∀e:Bool,some e=Kb27 (Sum.inr e)):∀(n27:Nat) (s6_28:Nat),(0<n27/\h11.FArgs.l.length<s6_28+n27)->Z72_l27 a0 a1 s5_12 k_next_11 n27 s6_28=Option.bind (Z72_q27 a1 s5_12 h11 (h11.FArgs.l.drop s6_28) s6_28 ) Kb27:=by
 intro n27;induction n27 with
 | zero=>intro s6_28 hn; exact absurd hn.1 (by omega)
 | succ n27 ih27 =>
  intro s6_28 hn;rw [Z72_l27];refine Q.preB hh11 fun x31 hx_x31=>?_;subst hx_x31;by_cases hlt:s6_28<x31.FArgs.l.length
  ·obtain⟨h27,hh27⟩:=Qa hlt;rw [Q.drop_of hh27,Z72_q27];refine QT hlt ?_;refine Q.bindPO hh11 fun x36 hx_x36=>?_;refine Q.bindPO (by first|exact hh27|(simp only [hx_x36]; exact hh27)|(simp only [hx_x36] at hh27 ⊢; exact hh27)) fun x37 hx_x37=>?_;refine Q.bindO rfl fun x38=>?_;refine Q.bindO rfl fun x39=>?_;refine Q.guardPO hh11 fun x40 hx_x40=>?_;refine Q.guardOO rfl fun x41=>?_;refine Q.guardOO rfl fun x42=>?_
   refine Q.guardOO rfl fun x43=>?_;refine Q.guardOO (Z41_eq _ _) fun x44=>?_;refine Q.condO ?_ ?_
   ·all_goals exact hret _
   all_goals exact ih27 _ ⟨by omega,by omega⟩
  rw [dL (by omega),Z72_q27];refine QF hlt ?_;exact hend n27 s6_28
def Z72_q11 (a1:(Sl TDir)):List TDir->Nat->Option (Unit ⊕ Bool)
 | [],s5_12=>some (Sum.inl ())
 | h11::r11,s5_12=>on (h11) fun x20=>(a1.l[s5_12]?).bind fun x21=>on (bif !(!(x20.FName==x21.FName)) then h11 else TDir.zero) fun x22=>guardO (!(!(x20.FName==x21.FName))) (a1.l[s5_12]?) TDir.zero fun x23=>bif ((!(x20.FName==x21.FName))||(!decide (((x22.FArgs.l.length:Nat):Int)=((x23.FArgs.l.length:Nat):Int)))) then(some (Sum.inr false)) else(Option.bind (Z72_q27 a1 s5_12 h11 h11.FArgs.l 0 ) fun o27=>match o27 with|Sum.inl _=>(on (()) fun _=>Z72_q11 a1 (r11) (s5_12+1) )|Sum.inr e27=>(some (Sum.inr e27)))
theorem Z72_l11_qe {a0:(Sl TDir)}{a1:(Sl TDir)}  (Kb11:(Unit ⊕ Bool)->Option Bool) (hend:∀(n11:Nat) (s5_12:Nat),Z72_j8   =Kb11 (Sum.inl ())) (hret:∀e:Bool,some e=Kb11 (Sum.inr e)):∀(n11:Nat) (s5_12:Nat),(0<n11/\a0.l.length<s5_12+n11)->Z72_l11 a0 a1 n11 s5_12=Option.bind (Z72_q11 a1 (a0.l.drop s5_12) s5_12 ) Kb11:=by
 intro n11;induction n11 with
 | zero=>intro s5_12 hn; exact absurd hn.1 (by omega)
 | succ n11 ih11 =>
  intro s5_12 hn;rw [Z72_l11];by_cases hlt:s5_12<a0.l.length
  ·obtain⟨h11,hh11⟩:=Qa hlt;rw [Q.drop_of hh11,Z72_q11];refine QT hlt ?_;refine Q.bindPO hh11 fun x20 hx_x20=>?_;refine Q.bindO rfl fun x21=>?_;refine Q.guardPO hh11 fun x22 hx_x22=>?_;refine Q.guardOO rfl fun x23=>?_;refine Q.condO ?_ ?_
   ·all_goals exact hret _
   refine Q.wrapOO fun Kb27 hKb27=>?_;refine Z72_l27_qe hh11 Kb27 ?_ ?_ _ _ ⟨by rw [hh11]; exact Nat.succ_pos _,by rw [hh11]; simp only [Option.elim]; omega⟩
   ·intro n27 s6_28;refine Qe (hKb27 _) ?_;try dsimp only
    refine Q.wrapPO fun Kj17 hKj17=>?_;have hj17:Z72_j17 s5_12 (Z72_l11 a0 a1 n11) =Kj17 ():=by
     refine Qe (hKj17 _) ?_;unfold Z72_j17;all_goals exact ih11 _ ⟨by omega,by omega⟩
    all_goals exact hj17
   intro e27;refine Qe (hKb27 _) ?_;try dsimp only
   all_goals exact hret _
  rw [dL (by omega),Z72_q11];refine QF hlt ?_;exact hend n11 s5_12
def Z72_q (a0:(Sl TDir)) (a1:(Sl TDir)):Option Bool:=bif (!decide (((a0.l.length:Nat):Int)=((a1.l.length:Nat):Int))) then(some false) else(Option.bind (Z72_q11 a1 a0.l 0 ) fun o11=>match o11 with|Sum.inl _=>(on (()) fun _=>some true)|Sum.inr e11=>(some e11))
theorem Z72_eq (a0:(Sl TDir)) (a1:(Sl TDir)):Z72 a0 a1=Z72_q a0 a1:=by
 unfold Z72 Z72_q;refine Qs ?_;refine Q.condO ?_ ?_
 ·all_goals rfl
 refine Q.wrapOO fun Kb11 hKb11=>?_;refine Z72_l11_qe  Kb11 ?_ ?_ _ _ ⟨Nat.succ_pos _,by omega⟩
 ·intro n11 s5_12;refine Qe (hKb11 _) ?_;try dsimp only
  refine Q.wrapPO fun Kj8 hKj8=>?_;have hj8:Z72_j8  =Kj8 ():=by
   refine Qe (hKj8 _) ?_;unfold Z72_j8;all_goals rfl
  all_goals exact hj8
 intro e11;refine Qe (hKb11 _) ?_;try dsimp only
 all_goals rfl
def Z80_q11 (a1:(Sl Z5)):List Z5->Nat->Option (Unit ⊕ Bool)
 | [],s5_12=>some (Sum.inl ())
 | h11::r11,s5_12=>on (h11) fun x19=>(a1.l[s5_12]?).bind fun x20=>guardO (!(!(x19.FName==x20.FName))) (Z56_q x19.FType x20.FType) false fun x22=>guardO (!(((!(x19.FName==x20.FName))||(!x22))||(!(x19.FHas==x20.FHas)))) (Z41_q x19.FDefault x20.FDefault) false fun x23=>guardO (!((((!(x19.FName==x20.FName))||(!x22))||(!(x19.FHas==x20.FHas)))||(!x23))) (Z72_q x19.FDirs x20.FDirs) false fun x24=>bif (((((!(x19.FName==x20.FName))||(!x22))||(!(x19.FHas==x20.FHas)))||(!x23))||(!x24)) then(some (Sum.inr false)) else(Z80_q11 a1 (r11) (s5_12+1) )
theorem Z80_l11_qe {a0:(Sl Z5)}{a1:(Sl Z5)}  (Kb11:(Unit ⊕ Bool)->Option Bool) (hend:∀(n11:Nat) (s5_12:Nat),Z80_j8   =Kb11 (Sum.inl ())) (hret:∀e:Bool,some e=Kb11 (Sum.inr e)):∀(n11:Nat) (s5_12:Nat),(0<n11/\a0.l.length<s5_12+n11)->Z80_l11 a0 a1 n11 s5_12=Option.bind (Z80_q11 a1 (a0.l.drop s5_12) s5_12 ) Kb11:=by
 intro n11;induction n11 with
 | zero=>intro s5_12 hn; exact absurd hn.1 (by omega)
 | succ n11 ih11 =>
  intro s5_12 hn;rw [Z80_l11];by_cases hlt:s5_12<a0.l.length
  ·obtain⟨h11,hh11⟩:=Qa hlt;rw [Q.drop_of hh11,Z80_q11];refine QT hlt ?_;refine Q.bindPO hh11 fun x19 hx_x19=>?_;refine Q.bindO rfl fun x20=>?_;refine Q.guardOO (Z56_eq _ _) fun x22=>?_;refine Q.guardOO (Z41_eq _ _) fun x23=>?_;refine Q.guardOO (Z72_eq _ _) fun x24=>?_;refine Q.condO ?_ ?_
   ·all_goals exact hret _
   all_goals exact ih11 _ ⟨by omega,by omega⟩
  rw [dL (by omega),Z80_q11];refine QF hlt ?_;exact hend n11 s5_12
def Z80_q (a0:(Sl Z5)) (a1:(Sl Z5)):Option Bool:=bif (!decide (((a0.l.length:Nat):Int)=((a1.l.length:Nat):Int))) then(some false) else(Option.bind (Z80_q11 a1 a0.l 0 ) fun o11=>match o11 with|Sum.inl _=>(on (()) fun _=>some true)|Sum.inr e11=>(some e11))
theorem Z80_eq (a0:(Sl Z5)) (a1:(Sl Z5)):Z80 a0 a1=Z80_q a0 a1:=by
 unfold Z80 Z80_q;refine Qs ?_;refine Q.condO ?_ ?_
 ·all_goals rfl
 refine Q.wrapOO fun Kb11 hKb11=>?_;refine Z80_l11_qe  Kb11 ?_ ?_ _ _ ⟨Nat.succ_pos _,by omega⟩
 ·intro n11 s5_12;refine Qe (hKb11 _) ?_;try dsimp only
  refine Q.wrapPO fun Kj8 hKj8=>?_;have hj8:Z80_j8  =Kj8 ():=by
   refine Qe (hKj8 _) ?_;unfold Z80_j8;all_goals rfl
  all_goals exact hj8
 intro e11;refine Qe (hKb11 _) ?_;try dsimp only
 all_goals rfl
end Go.Proofs

namespace Go.Proofs
open Go Go.Ab
def Z71_q29 (a1:TDef):List Z4->Nat->Option (Unit ⊕ Bool)
 | [],s5_30=>some (Sum.inl ())
 | h29::r29,s5_30=>on (h29) fun x37=>(a1.FFields.l[s5_30]?).bind fun x38=>guardO (!(!(x37.FName==x38.FName))) (Z56_q x37.FType x38.FType) false fun x40=>guardO (!((!(x37.FName==x38.FName))||(!x40))) (Z72_q x37.FDirs x38.FDirs) false fun x41=>guardO (!(((!(x37.FName==x38.FName))||(!x40))||(!x41))) (Z80_q x37.FArgs x38.FArgs) false fun x42=>bif ((((!(x37.FName==x38.FName))||(!x40))||(!x41))||(!x42)) then(some (Sum.inr false)) else(Z71_q29 a1 (r29) (s5_30+1) )
theorem Z71_l29_qe {a0:TDef}{a1:TDef}  (Kb29:(Unit ⊕ Bool)->Option Bool) (hend:∀(n29:Nat) (s5_30:Nat),Z71_j8 a0 a1  =Kb29 (Sum.inl ())) (hret:∀e:Bool,some e=Kb29 (Sum.inr e)):∀(n29:Nat) (s5_30:Nat),(0<n29/\a0.FFields.l.length<s5_30+n29)->Z71_l29 a0 a1 n29 s5_30=Option.bind (Z71_q29 a1 (a0.FFields.l.drop s5_30) s5_30 ) Kb29:=by
 intro n29;induction n29 with
 | zero=>intro s5_30 hn; exact absurd hn.1 (by omega)
 | succ n29 ih29 =>
  intro s5_30 hn;rw [Z71_l29];by_cases hlt:s5_30<a0.FFields.l.length
  ·obtain⟨h29,hh29⟩:=Qa hlt;rw [Q.drop_of hh29,Z71_q29];refine QT hlt ?_;refine Q.bindPO hh29 fun x37 hx_x37=>?_;refine Q.bindO rfl fun x38=>?_;refine Q.guardOO (Z56_eq _ _) fun x40=>?_;refine Q.guardOO (Z72_eq _ _) fun x41=>?_;refine Q.guardOO (Z80_eq _ _) fun x42=>?_;refine Q.condO ?_ ?_
   ·all_goals exact hret _
   all_goals exact ih29 _ ⟨by omega,by omega⟩
  rw [dL (by omega),Z71_q29];refine QF hlt ?_;exact hend n29 s5_30
def Z71_q13 (a1:TDef):List Z6->Nat->Option (Unit ⊕ Bool)
 | [],s8_14=>some (Sum.inl ())
 | h13::r13,s8_14=>on (h13) fun x21=>(a1.FMembers.l[s8_14]?).bind fun x22=>on (bif !(!(x21.FName==x22.FName)) then h13 else Z6.zero) fun x23=>guardO (!(!(x21.FName==x22.FName))) (a1.FMembers.l[s8_14]?) Z6.zero fun x24=>guardO (!(!(x21.FName==x22.FName))) (Z72_q x23.FDirs x24.FDirs) false fun x25=>bif ((!(x21.FName==x22.FName))||(!x25)) then(some (Sum.inr false)) else(Z71_q13 a1 (r13) (s8_14+1) )
theorem Z71_l13_qe {a0:TDef}{a1:TDef}  (Kb13:(Unit ⊕ Bool)->Option Bool) (hend:∀(n13:Nat) (s8_14:Nat),Z71_j9 a0 a1  =Kb13 (Sum.inl ())) (hret:∀e:Bool,some e=Kb13 (Sum.inr e)):∀(n13:Nat) (s8_14:Nat),(0<n13/\a0.FMembers.l.length<s8_14+n13)->Z71_l13 a0 a1 n13 s8_14=Option.bind (Z71_q13 a1 (a0.FMembers.l.drop s8_14) s8_14 ) Kb13:=by
 intro n13;induction n13 with
 | zero=>intro s8_14 hn; exact absurd hn.1 (by omega)
 | succ n13 ih13 =>
  intro s8_14 hn;rw [Z71_l13];by_cases hlt:s8_14<a0.FMembers.l.length
  ·obtain⟨h13,hh13⟩:=Qa hlt;rw [Q.drop_of hh13,Z71_q13];refine QT hlt ?_;refine Q.bindPO hh13 fun x21 hx_x21=>?_;refine Q.bindO rfl fun x22=>?_;refine Q.guardPO hh13 fun x23 hx_x23=>?_;refine Q.guardOO rfl fun x24=>?_;refine Q.guardOO (Z72_eq _ _) fun x25=>?_;refine Q.condO ?_ ?_
   ·all_goals exact hret _
   all_goals exact ih13 _ ⟨by omega,by omega⟩
  rw [dL (by omega),Z71_q13];refine QF hlt ?_;exact hend n13 s8_14
def Z71_q (a0:TDef) (a1:TDef):Option Bool:=guardO (!((!decide (a0.FKind=a1.FKind))||(!(a0.FName==a1.FName)))) (Z81_q a0.FImplements a1.FImplements) false fun x4=>guardO (!(((!decide (a0.FKind=a1.FKind))||(!(a0.FName==a1.FName)))||(!x4))) (Z72_q a0.FDirs a1.FDirs) false fun x5=>bif ((((((!decide (a0.FKind=a1.FKind))||(!(a0.FName==a1.FName)))||(!x4))||(!x5))||(!decide (((a0.FFields.l.length:Nat):Int)=((a1.FFields.l.length:Nat):Int))))||(!decide (((a0.FMembers.l.length:Nat):Int)=((a1.FMembers.l.length:Nat):Int)))) then(some false) else(Option.bind (Z71_q29 a1 a0.FFields.l 0 ) fun o29=>match o29 with|Sum.inl _=>(on (()) fun _=>Option.bind (Z71_q13 a1 a0.FMembers.l 0 ) fun o13=>match o13 with|Sum.inl _=>(on (()) fun _=>(Z80_q a0.FInputs a1.FInputs).bind fun x11=>some x11)|Sum.inr e13=>(some e13))|Sum.inr e29=>(some e29))
theorem Z71_eq (a0:TDef) (a1:TDef):Z71 a0 a1=Z71_q a0 a1:=by
 unfold Z71 Z71_q;refine Qs ?_;refine Q.guardOO (Z81_eq _ _) fun x4=>?_;refine Q.guardOO (Z72_eq _ _) fun x5=>?_;refine Q.condO ?_ ?_
 ·all_goals rfl
 refine Q.wrapOO fun Kb29 hKb29=>?_;refine Z71_l29_qe  Kb29 ?_ ?_ _ _ ⟨Nat.succ_pos _,by omega⟩
 ·intro n29 s5_30;refine Qe (hKb29 _) ?_;try dsimp only
  refine Q.wrapPO fun Kj8 hKj8=>?_;have hj8:Z71_j8 a0 a1 =Kj8 ():=by
   refine Qe (hKj8 _) ?_;unfold Z71_j8;refine Q.wrapOO fun Kb13 hKb13=>?_;refine Z71_l13_qe  Kb13 ?_ ?_ _ _ ⟨Nat.succ_pos _,by omega⟩
   ·intro n13 s8_14;refine Qe (hKb13 _) ?_;try dsimp only
    refine Q.wrapPO fun Kj9 hKj9=>?_;have hj9:Z71_j9 a0 a1 =Kj9 ():=by
     refine Qe (hKj9 _) ?_;unfold Z71_j9;refine Q.bindO (Z80_eq _ _) fun x11=>?_;all_goals rfl
    all_goals exact hj9
   intro e13;refine Qe (hKb13 _) ?_;try dsimp only
   all_goals rfl
  all_goals exact hj8
 intro e29;refine Qe (hKb29 _) ?_;try dsimp only
 all_goals rfl
def Z70_q11 (a1:TDoc):List TDef->Nat->Option (Unit ⊕ Bool)
 | [],s5_12=>some (Sum.inl ())
 | h11::r11,s5_12=>on (h11) fun x19=>(a1.FDefs.l[s5_12]?).bind fun x20=>(Z71_q x19 x20).bind fun x21=>bif (!x21) then(some (Sum.inr false)) else(Z70_q11 a1 (r11) (s5_12+1) )
theorem Z70_l11_qe {a0:TDoc}{a1:TDoc}  (Kb11:(Unit ⊕ Bool)->Option Bool) (hend:∀(n11:Nat) (s5_12:Nat),Z70_j8   =Kb11 (Sum.inl ())) (hret:∀e:Bool,some e=Kb11 (Sum.inr e)):∀(n11:Nat) (s5_12:Nat),(0<n11/\a0.FDefs.l.length<s5_12+n11)->Z70_l11 a0 a1 n11 s5_12=Option.bind (Z70_q11 a1 (a0.FDefs.l.drop s5_12) s5_12 ) Kb11:=by
 intro n11;induction n11 with
 | zero=>intro s5_12 hn; exact absurd hn.1 (by omega)
 | succ n11 ih11 =>
  intro s5_12 hn;rw [Z70_l11];by_cases hlt:s5_12<a0.FDefs.l.length
  ·obtain⟨h11,hh11⟩:=Qa hlt;rw [Q.drop_of hh11,Z70_q11];refine QT hlt ?_;refine Q.bindPO hh11 fun x19 hx_x19=>?_;refine Q.bindO rfl fun x20=>?_;refine Q.bindO (Z71_eq _ _) fun x21=>?_;refine Q.condO ?_ ?_
   ·all_goals exact hret _
   all_goals exact ih11 _ ⟨by omega,by omega⟩
  rw [dL (by omega),Z70_q11];refine QF hlt ?_;exact hend n11 s5_12
def Z70_q (a0:TDoc) (a1:TDoc):Option Bool:=bif (!decide (((a0.FDefs.l.length:Nat):Int)=((a1.FDefs.l.length:Nat):Int))) then(some false) else(Option.bind (Z70_q11 a1 a0.FDefs.l 0 ) fun o11=>match o11 with|Sum.inl _=>(on (()) fun _=>some true)|Sum.inr e11=>(some e11))
theorem Z70_eq (a0:TDoc) (a1:TDoc):Z70 a0 a1=Z70_q a0 a1:=by
 unfold Z70 Z70_q;refine Qs ?_;refine Q.condO ?_ ?_
 ·all_goals rfl
 refine Q.wrapOO fun Kb11 hKb11=>?_;refine Z70_l11_qe  Kb11 ?_ ?_ _ _ ⟨Nat.succ_pos _,by omega⟩
 ·intro n11 s5_12;refine Qe (hKb11 _) ?_;try dsimp only
  refine Q.wrapPO fun Kj8 hKj8=>?_;have hj8:Z70_j8  =Kj8 ():=by
   refine Qe (hKj8 _) ?_;unfold Z70_j8;all_goals rfl
  all_goals exact hj8
 intro e11;refine Qe (hKb11 _) ?_;try dsimp only
 all_goals rfl
def Z78_q (a0:(Sl Bs)):Option (Sl Int):=Z78 a0
theorem Z78_eq (a0:(Sl Bs)):Z78 a0=Z78_q a0:=rfl
def Z43_q7 (k_rec_48:Z7->Option Z7):List Z7->(Sl Z7)->Option ((Sl Z7))
 | [],s3_8=>some s3_8
 | h7::r7,s3_8=>on (h7) fun x15=>(k_rec_48 x15).bind fun x16=>(appC 80 s3_8 (⟨false,[x16]⟩:Sl Z7)).bind fun x17=>Z43_q7 k_rec_48 (r7) x17
theorem Z43_l7_qe {a0:(Sl Z7)}{k_rec_48:Z7->Option Z7}  (Kb7:((Sl Z7))->Option (Sl Z7)) (hend:∀(n7:Nat) (s3_8:(Sl Z7)) (s4_9:Nat),Z43_j3   s3_8=Kb7 s3_8):∀(n7:Nat) (s3_8:(Sl Z7)) (s4_9:Nat),(0<n7/\a0.l.length<s4_9+n7)->Z43_l7 a0 k_rec_48 n7 s3_8 s4_9=Option.bind (Z43_q7 k_rec_48 (a0.l.drop s4_9) s3_8) Kb7:=by
 intro n7;induction n7 with
 | zero=>intro s3_8 s4_9 hn; exact absurd hn.1 (by omega)
 | succ n7 ih7 =>
  intro s3_8 s4_9 hn;rw [Z43_l7];by_cases hlt:s4_9<a0.l.length
  ·obtain⟨h7,hh7⟩:=Qa hlt;rw [Q.drop_of hh7,Z43_q7];refine QT hlt ?_;refine Q.bindPO hh7 fun x15 hx_x15=>?_;refine Q.bindO rfl fun x16=>?_;refine Q.bindO rfl fun x17=>?_;all_goals exact ih7 _ _ ⟨by omega,by omega⟩
  rw [dL (by omega),Z43_q7];refine QF hlt ?_;exact hend n7 s3_8 s4_9
mutual
def r02_Copy_qn:Nat->Z7->Option Z7
 | 0,_=>none
 | n+1,a0=>((Z43_qn n) a0.FItems).bind fun x3=>(appC 16 (⟨false,[]⟩:Sl Bs) a0.FKeys).bind fun x4=>some (Z7.mk a0.FKind a0.FInt a0.FText x3.nl x3.l x4)
def Z43_qn:Nat->(Sl Z7)->Option (Sl Z7)
 | 0,_=>none
 | n+1,a0=>Option.bind (Z43_q7 (r02_Copy_qn n) a0.l (Sl.nil:Sl Z7)) fun s3_8=>on (s3_8) fun s3_4=>some s3_4
end
theorem r02_Copy_qall:∀n:Nat,r02_Copy_n n=r02_Copy_qn n/\Z43_n n=Z43_qn n:=by
 intro n;induction n with
 | zero=>exact⟨(by funext a0; first|rfl|(rw [r02_Copy_n,r02_Copy_qn])),(by funext a0; first|rfl|(rw [Z43_n,Z43_qn]))⟩
 | succ n ih =>
  refine⟨?_, ?_⟩
  ·funext a0
   refine Qs ?_;rw [r02_Copy_n,r02_Copy_qn];try rw [ih.1]
   try rw [ih.2]
   refine Q.bindO rfl fun x3=>?_;refine Q.bindO rfl fun x4=>?_;all_goals rfl
  funext a0
  refine Qs ?_;rw [Z43_n,Z43_qn];try rw [ih.1]
  try rw [ih.2]
  refine Q.wrapOO fun Kb7 hKb7=>?_;refine Z43_l7_qe  Kb7 ?_ _ _ _ ⟨Nat.succ_pos _,by omega⟩;intro n7 s3_8 s4_9;refine Qe (hKb7 _) ?_;refine Q.wrapPO fun Kj3 hKj3=>?_;have hj3:∀(s3_4:(Sl Z7)),Z43_j3  s3_4=Kj3 s3_4:=by
   intro s3_4;refine Qe (hKj3 _) ?_;unfold Z43_j3;all_goals rfl
  all_goals exact hj3 _
def r02_Copy_q (a0:Z7):Option Z7:=r02_Copy_qn F0 a0
theorem r02_Copy_eq (a0:Z7):r02_Copy a0=r02_Copy_q a0:=by
 unfold r02_Copy r02_Copy_q; rw [(r02_Copy_qall F0).1]
def Z74_q23 (h7:TDir):List TArg->TDir->Option (TDir)
 | [],y25_l0=>some y25_l0
 | h23::r23,y25_l0=>on (h7) fun x32=>on (h23) fun x33=>on (h7) fun x34=>on (h23) fun x35=>(r02_Copy_q x35.FValue).bind fun x36=>(appC 96 y25_l0.FArgs (⟨false,[(TArg.mk x33.FName x36)]⟩:Sl TArg)).bind fun x37=>Z74_q23 h7 (r23) (TDir.mk y25_l0.FName x37)
theorem Z74_l23_qe {a0:(Sl TDir)}{s3_8:(Sl TDir)}{s4_9:Nat}{k_next_7:(Sl TDir)->Nat->Option (Sl TDir)}{h7:TDir}(hh7:a0.l[s4_9]?=some h7) (Kb23:(TDir)->Option (Sl TDir)) (hend:∀(n23:Nat) (s6_24:Nat) (y25_l0:TDir),Z74_j19 s3_8 s4_9 k_next_7 y25_l0=Kb23 y25_l0):∀(n23:Nat) (s6_24:Nat) (y25_l0:TDir),(0<n23/\h7.FArgs.l.length<s6_24+n23)->Z74_l23 a0 s3_8 s4_9 k_next_7 n23 s6_24 y25_l0=Option.bind (Z74_q23 h7 (h7.FArgs.l.drop s6_24) y25_l0) Kb23:=by
 intro n23;induction n23 with
 | zero=>intro s6_24 y25_l0 hn; exact absurd hn.1 (by omega)
 | succ n23 ih23 =>
  intro s6_24 y25_l0 hn;rw [Z74_l23];refine Q.preB hh7 fun x28 hx_x28=>?_;subst hx_x28;by_cases hlt:s6_24<x28.FArgs.l.length
  ·obtain⟨h23,hh23⟩:=Qa hlt;rw [Q.drop_of hh23,Z74_q23];refine QT hlt ?_;refine Q.bindPO hh7 fun x32 hx_x32=>?_;refine Q.bindPO (by first|exact hh23|(simp only [hx_x32]; exact hh23)|(simp only [hx_x32] at hh23 ⊢; exact hh23)) fun x33 hx_x33=>?_;refine Q.bindPO hh7 fun x34 hx_x34=>?_;refine Q.bindPO (by first|exact hh23|(simp only [hx_x34]; exact hh23)|(simp only [hx_x34] at hh23 ⊢; exact hh23)) fun x35 hx_x35=>?_
   refine Q.bindO (r02_Copy_eq _) fun x36=>?_;refine Q.bindO rfl fun x37=>?_;all_goals exact ih23 _ _ ⟨by omega,by omega⟩
  rw [dL (by omega),Z74_q23];refine QF hlt ?_;exact hend n23 s6_24 y25_l0
def Z74_q7 :List TDir->(Sl TDir)->Option ((Sl TDir))
 | [],s3_8=>some s3_8
 | h7::r7,s3_8=>on (h7) fun x17=>Option.bind (Z74_q23 h7 h7.FArgs.l (TDir.mk x17.FName (Sl.nil:Sl TArg))) fun y25_l0=>on (y25_l0) fun y20_l0=>(appC 40 s3_8 (⟨false,[y20_l0]⟩:Sl TDir)).bind fun x21=>on (x21) fun s3_15=>Z74_q7  (r7) s3_15
theorem Z74_l7_qe {a0:(Sl TDir)}  (Kb7:((Sl TDir))->Option (Sl TDir)) (hend:∀(n7:Nat) (s3_8:(Sl TDir)) (s4_9:Nat),Z74_j3   s3_8=Kb7 s3_8):∀(n7:Nat) (s3_8:(Sl TDir)) (s4_9:Nat),(0<n7/\a0.l.length<s4_9+n7)->Z74_l7 a0 n7 s3_8 s4_9=Option.bind (Z74_q7  (a0.l.drop s4_9) s3_8) Kb7:=by
 intro n7;induction n7 with
 | zero=>intro s3_8 s4_9 hn; exact absurd hn.1 (by omega)
 | succ n7 ih7 =>
  intro s3_8 s4_9 hn;rw [Z74_l7];by_cases hlt:s4_9<a0.l.length
  ·obtain⟨h7,hh7⟩:=Qa hlt;rw [Q.drop_of hh7,Z74_q7];refine QT hlt ?_;refine Q.bindPO hh7 fun x17 hx_x17=>?_;refine Q.wrapOO fun Kb23 hKb23=>?_;refine Z74_l23_qe hh7 Kb23 ?_ _ _ _ ⟨by rw [hh7]; exact Nat.succ_pos _,by rw [hh7]; simp only [Option.elim]; omega⟩;intro n23 s6_24 y25_l0;refine Qe (hKb23 _) ?_;refine Q.wrapPO fun Kj19 hKj19=>?_;have hj19:∀(y20_l0:TDir),Z74_j19 s3_8 s4_9 (Z74_l7 a0 n7) y20_l0=Kj19 y20_l0:=by
    intro y20_l0;refine Qe (hKj19 _) ?_;unfold Z74_j19;refine Q.bindO rfl fun x21=>?_;refine Q.wrapPO fun Kj14 hKj14=>?_;have hj14:∀(s3_15:(Sl TDir)),Z74_j14 s4_9 (Z74_l7 a0 n7) s3_15=Kj14 s3_15:=by
     intro s3_15;refine Qe (hKj14 _) ?_;unfold Z74_j14;all_goals exact ih7 _ _ ⟨by omega,by omega⟩
    all_goals exact hj14 _
   all_goals exact hj19 _
  rw [dL (by omega),Z74_q7];refine QF hlt ?_;exact hend n7 s3_8 s4_9
def Z74_q (a0:(Sl TDir)):Option (Sl TDir):=Option.bind (Z74_q7  a0.l (Sl.nil:Sl TDir)) fun s3_8=>on (s3_8) fun s3_4=>some s3_4
theorem Z74_eq (a0:(Sl TDir)):Z74 a0=Z74_q a0:=by
 unfold Z74 Z74_q;refine Qs ?_;refine Q.wrapOO fun Kb7 hKb7=>?_;refine Z74_l7_qe  Kb7 ?_ _ _ _ ⟨Nat.succ_pos _,by omega⟩;intro n7 s3_8 s4_9;refine Qe (hKb7 _) ?_;refine Q.wrapPO fun Kj3 hKj3=>?_;have hj3:∀(s3_4:(Sl TDir)),Z74_j3  s3_4=Kj3 s3_4:=by
  intro s3_4;refine Qe (hKj3 _) ?_;unfold Z74_j3;all_goals rfl
 all_goals exact hj3 _
def Z79_q (a0:TRef):Option TRef:=(appC 8 ((TRef.mk a0.FName (Sl.nil:Sl Int)).FWraps) a0.FWraps).bind fun x5=>some (TRef.mk ((TRef.mk a0.FName (Sl.nil:Sl Int)).FName) x5)
theorem Z79_eq (a0:TRef):Z79 a0=Z79_q a0:=by
 unfold Z79 Z79_q;refine Qs ?_;refine Q.bindO rfl fun x5=>?_;all_goals rfl
def Z76_q28 :List Z5->(Sl Bs)->Option ((Sl Bs))
 | [],s3_29=>some s3_29
 | h28::r28,s3_29=>on (h28) fun x36=>(appC 16 s3_29 (⟨false,[x36.FName]⟩:Sl Bs)).bind fun x37=>Z76_q28  (r28) x37
theorem Z76_l28_qe {a0:(Sl Z5)}  (Kb28:((Sl Bs))->Option (Sl Z5)) (hend:∀(n28:Nat) (s3_29:(Sl Bs)) (s4_30:Nat),Z76_j3 a0  s3_29=Kb28 s3_29):∀(n28:Nat) (s3_29:(Sl Bs)) (s4_30:Nat),(0<n28/\a0.l.length<s4_30+n28)->Z76_l28 a0 n28 s3_29 s4_30=Option.bind (Z76_q28  (a0.l.drop s4_30) s3_29) Kb28:=by
 intro n28;induction n28 with
 | zero=>intro s3_29 s4_30 hn; exact absurd hn.1 (by omega)
 | succ n28 ih28 =>
  intro s3_29 s4_30 hn;rw [Z76_l28];by_cases hlt:s4_30<a0.l.length
  ·obtain⟨h28,hh28⟩:=Qa hlt;rw [Q.drop_of hh28,Z76_q28];refine QT hlt ?_;refine Q.bindPO hh28 fun x36 hx_x36=>?_;refine Q.bindO rfl fun x37=>?_;all_goals exact ih28 _ _ ⟨by omega,by omega⟩
  rw [dL (by omega),Z76_q28];refine QF hlt ?_;exact hend n28 s3_29 s4_30
def Z76_q12 (a0:(Sl Z5)):List Int->(Sl Z5)->Option ((Sl Z5))
 | [],s6_13=>some s6_13
 | h12::r12,s6_13=>on (h12) fun x21=>(idxC a0.l x21).bind fun x22=>(Z79_q x22.FType).bind fun x23=>(r02_Copy_q x22.FDefault).bind fun x24=>(Z74_q x22.FDirs).bind fun x25=>(appC 168 s6_13 (⟨false,[(Z5.mk x22.FName x23 x22.FHas x24 x25)]⟩:Sl Z5)).bind fun x26=>Z76_q12 a0 (r12) x26
theorem Z76_l12_qe {a0:(Sl Z5)}{x6:(Sl Int)}  (Kb12:((Sl Z5))->Option (Sl Z5)) (hend:∀(n12:Nat) (s6_13:(Sl Z5)) (s7_14:Nat),Z76_j8   s6_13=Kb12 s6_13):∀(n12:Nat) (s6_13:(Sl Z5)) (s7_14:Nat),(0<n12/\x6.l.length<s7_14+n12)->Z76_l12 a0 x6 n12 s6_13 s7_14=Option.bind (Z76_q12 a0 (x6.l.drop s7_14) s6_13) Kb12:=by
 intro n12;induction n12 with
 | zero=>intro s6_13 s7_14 hn; exact absurd hn.1 (by omega)
 | succ n12 ih12 =>
  intro s6_13 s7_14 hn;rw [Z76_l12];by_cases hlt:s7_14<x6.l.length
  ·obtain⟨h12,hh12⟩:=Qa hlt;rw [Q.drop_of hh12,Z76_q12];refine QT hlt ?_;refine Q.bindPO hh12 fun x21 hx_x21=>?_;refine Q.bindO rfl fun x22=>?_;refine Q.bindO (Z79_eq _) fun x23=>?_;refine Q.bindO (r02_Copy_eq _) fun x24=>?_;refine Q.bindO (Z74_eq _) fun x25=>?_;refine Q.bindO rfl fun x26=>?_;all_goals exact ih12 _ _ ⟨by omega,by omega⟩
  rw [dL (by omega),Z76_q12];refine QF hlt ?_;exact hend n12 s6_13 s7_14
def Z76_q (a0:(Sl Z5)):Option (Sl Z5):=Option.bind (Z76_q28  a0.l (Sl.nil:Sl Bs)) fun s3_29=>on (s3_29) fun s3_4=>(Z78_q s3_4).bind fun x6=>Option.bind (Z76_q12 a0 x6.l (Sl.nil:Sl Z5)) fun s6_13=>on (s6_13) fun s6_9=>some s6_9
theorem Z76_eq (a0:(Sl Z5)):Z76 a0=Z76_q a0:=by
 unfold Z76 Z76_q;refine Qs ?_;refine Q.wrapOO fun Kb28 hKb28=>?_;refine Z76_l28_qe  Kb28 ?_ _ _ _ ⟨Nat.succ_pos _,by omega⟩;intro n28 s3_29 s4_30;refine Qe (hKb28 _) ?_;refine Q.wrapPO fun Kj3 hKj3=>?_;have hj3:∀(s3_4:(Sl Bs)),Z76_j3 a0 s3_4=Kj3 s3_4:=by
  intro s3_4;refine Qe (hKj3 _) ?_;unfold Z76_j3;refine Q.bindO (Z78_eq _) fun x6=>?_;refine Q.wrapOO fun Kb12 hKb12=>?_;refine Z76_l12_qe  Kb12 ?_ _ _ _ ⟨Nat.succ_pos _,by omega⟩;intro n12 s6_13 s7_14;refine Qe (hKb12 _) ?_;refine Q.wrapPO fun Kj8 hKj8=>?_;have hj8:∀(s6_9:(Sl Z5)),Z76_j8  s6_9=Kj8 s6_9:=by
   intro s6_9;refine Qe (hKj8 _) ?_;unfold Z76_j8;all_goals rfl
  all_goals exact hj8 _
 all_goals exact hj3 _
def Z75_q28 :List Z4->(Sl Bs)->Option ((Sl Bs))
 | [],s3_29=>some s3_29
 | h28::r28,s3_29=>on (h28) fun x36=>(appC 16 s3_29 (⟨false,[x36.FName]⟩:Sl Bs)).bind fun x37=>Z75_q28  (r28) x37
theorem Z75_l28_qe {a0:(Sl Z4)}  (Kb28:((Sl Bs))->Option (Sl Z4)) (hend:∀(n28:Nat) (s3_29:(Sl Bs)) (s4_30:Nat),Z75_j3 a0  s3_29=Kb28 s3_29):∀(n28:Nat) (s3_29:(Sl Bs)) (s4_30:Nat),(0<n28/\a0.l.length<s4_30+n28)->Z75_l28 a0 n28 s3_29 s4_30=Option.bind (Z75_q28  (a0.l.drop s4_30) s3_29) Kb28:=by
 intro n28;induction n28 with
 | zero=>intro s3_29 s4_30 hn; exact absurd hn.1 (by omega)
 | succ n28 ih28 =>
  intro s3_29 s4_30 hn;rw [Z75_l28];by_cases hlt:s4_30<a0.l.length
  ·obtain⟨h28,hh28⟩:=Qa hlt;rw [Q.drop_of hh28,Z75_q28];refine QT hlt ?_;refine Q.bindPO hh28 fun x36 hx_x36=>?_;refine Q.bindO rfl fun x37=>?_;all_goals exact ih28 _ _ ⟨by omega,by omega⟩
  rw [dL (by omega),Z75_q28];refine QF hlt ?_;exact hend n28 s3_29 s4_30
def Z75_q12 (a0:(Sl Z4)):List Int->(Sl Z4)->Option ((Sl Z4))
 | [],s6_13=>some s6_13
 | h12::r12,s6_13=>on (h12) fun x21=>(idxC a0.l x21).bind fun x22=>(Z76_q x22.FArgs).bind fun x23=>(Z79_q x22.FType).bind fun x24=>(Z74_q x22.FDirs).bind fun x25=>(appC 104 s6_13 (⟨false,[(Z4.mk x22.FName x23 x24 x25)]⟩:Sl Z4)).bind fun x26=>Z75_q12 a0 (r12) x26
theorem Z75_l12_qe {a0:(Sl Z4)}{x6:(Sl Int)}  (Kb12:((Sl Z4))->Option (Sl Z4)) (hend:∀(n12:Nat) (s6_13:(Sl Z4)) (s7_14:Nat),Z75_j8   s6_13=Kb12 s6_13):∀(n12:Nat) (s6_13:(Sl Z4)) (s7_14:Nat),(0<n12/\x6.l.length<s7_14+n12)->Z75_l12 a0 x6 n12 s6_13 s7_14=Option.bind (Z75_q12 a0 (x6.l.drop s7_14) s6_13) Kb12:=by
 intro n12;induction n12 with
 | zero=>intro s6_13 s7_14 hn; exact absurd hn.1 (by omega)
 | succ n12 ih12 =>
  intro s6_13 s7_14 hn;rw [Z75_l12];by_cases hlt:s7_14<x6.l.length
  ·obtain⟨h12,hh12⟩:=Qa hlt;rw [Q.drop_of hh12,Z75_q12];refine QT hlt ?_;refine Q.bindPO hh12 fun x21 hx_x21=>?_;refine Q.bindO rfl fun x22=>?_;refine Q.bindO (Z76_eq _) fun x23=>?_;refine Q.bindO (Z79_eq _) fun x24=>?_;refine Q.bindO (Z74_eq _) fun x25=>?_;refine Q.bindO rfl fun x26=>?_;all_goals exact ih12 _ _ ⟨by omega,by omega⟩
  rw [dL (by omega),Z75_q12];refine QF hlt ?_;exact hend n12 s6_13 s7_14
def Z75_q (a0:(Sl Z4)):Option (Sl Z4):=Option.bind (Z75_q28  a0.l (Sl.nil:Sl Bs)) fun s3_29=>on (s3_29) fun s3_4=>(Z78_q s3_4).bind fun x6=>Option.bind (Z75_q12 a0 x6.l (Sl.nil:Sl Z4)) fun s6_13=>on (s6_13) fun s6_9=>some s6_9
theorem Z75_eq (a0:(Sl Z4)):Z75 a0=Z75_q a0:=by
 unfold Z75 Z75_q;refine Qs ?_;refine Q.wrapOO fun Kb28 hKb28=>?_;refine Z75_l28_qe  Kb28 ?_ _ _ _ ⟨Nat.succ_pos _,by omega⟩;intro n28 s3_29 s4_30;refine Qe (hKb28 _) ?_;refine Q.wrapPO fun Kj3 hKj3=>?_;have hj3:∀(s3_4:(Sl Bs)),Z75_j3 a0 s3_4=Kj3 s3_4:=by
  intro s3_4;refine Qe (hKj3 _) ?_;unfold Z75_j3;refine Q.bindO (Z78_eq _) fun x6=>?_;refine Q.wrapOO fun Kb12 hKb12=>?_;refine Z75_l12_qe  Kb12 ?_ _ _ _ ⟨Nat.succ_pos _,by omega⟩;intro n12 s6_13 s7_14;refine Qe (hKb12 _) ?_;refine Q.wrapPO fun Kj8 hKj8=>?_;have hj8:∀(s6_9:(Sl Z4)),Z75_j8  s6_9=Kj8 s6_9:=by
   intro s6_9;refine Qe (hKj8 _) ?_;unfold Z75_j8;all_goals rfl
  all_goals exact hj8 _
 all_goals exact hj3 _
def Z77_q27 :List Z6->(Sl Bs)->Option ((Sl Bs))
 | [],s3_28=>some s3_28
 | h27::r27,s3_28=>on (h27) fun x35=>(appC 16 s3_28 (⟨false,[x35.FName]⟩:Sl Bs)).bind fun x36=>Z77_q27  (r27) x36
theorem Z77_l27_qe {a0:(Sl Z6)}  (Kb27:((Sl Bs))->Option (Sl Z6)) (hend:∀(n27:Nat) (s3_28:(Sl Bs)) (s4_29:Nat),Z77_j3 a0  s3_28=Kb27 s3_28):∀(n27:Nat) (s3_28:(Sl Bs)) (s4_29:Nat),(0<n27/\a0.l.length<s4_29+n27)->Z77_l27 a0 n27 s3_28 s4_29=Option.bind (Z77_q27  (a0.l.drop s4_29) s3_28) Kb27:=by
 intro n27;induction n27 with
 | zero=>intro s3_28 s4_29 hn; exact absurd hn.1 (by omega)
 | succ n27 ih27 =>
  intro s3_28 s4_29 hn;rw [Z77_l27];by_cases hlt:s4_29<a0.l.length
  ·obtain⟨h27,hh27⟩:=Qa hlt;rw [Q.drop_of hh27,Z77_q27];refine QT hlt ?_;refine Q.bindPO hh27 fun x35 hx_x35=>?_;refine Q.bindO rfl fun x36=>?_;all_goals exact ih27 _ _ ⟨by omega,by omega⟩
  rw [dL (by omega),Z77_q27];refine QF hlt ?_;exact hend n27 s3_28 s4_29
def Z77_q12 (a0:(Sl Z6)):List Int->(Sl Z6)->Option ((Sl Z6))
 | [],s6_13=>some s6_13
 | h12::r12,s6_13=>on (h12) fun x20=>(idxC a0.l x20).bind fun x21=>on (h12) fun x22=>(idxC a0.l x22).bind fun x23=>(Z74_q x23.FDirs).bind fun x24=>(appC 40 s6_13 (⟨false,[(Z6.mk x21.FName x24)]⟩:Sl Z6)).bind fun x25=>Z77_q12 a0 (r12) x25
theorem Z77_l12_qe {a0:(Sl Z6)}{x6:(Sl Int)}  (Kb12:((Sl Z6))->Option (Sl Z6)) (hend:∀(n12:Nat) (s6_13:(Sl Z6)) (s7_14:Nat),Z77_j8   s6_13=Kb12 s6_13):∀(n12:Nat) (s6_13:(Sl Z6)) (s7_14:Nat),(0<n12/\x6.l.length<s7_14+n12)->Z77_l12 a0 x6 n12 s6_13 s7_14=Option.bind (Z77_q12 a0 (x6.l.drop s7_14) s6_13) Kb12:=by
 intro n12;induction n12 with
 | zero=>intro s6_13 s7_14 hn; exact absurd hn.1 (by omega)
 | succ n12 ih12 =>
  intro s6_13 s7_14 hn;rw [Z77_l12];by_cases hlt:s7_14<x6.l.length
  ·obtain⟨h12,hh12⟩:=Qa hlt;rw [Q.drop_of hh12,Z77_q12];refine QT hlt ?_;refine Q.bindPO hh12 fun x20 hx_x20=>?_;refine Q.bindO rfl fun x21=>?_;refine Q.bindPO hh12 fun x22 hx_x22=>?_;refine Q.bindO rfl fun x23=>?_;refine Q.bindO (Z74_eq _) fun x24=>?_;refine Q.bindO rfl fun x25=>?_;all_goals exact ih12 _ _ ⟨by omega,by omega⟩
  rw [dL (by omega),Z77_q12];refine QF hlt ?_;exact hend n12 s6_13 s7_14
def Z77_q (a0:(Sl Z6)):Option (Sl Z6):=Option.bind (Z77_q27  a0.l (Sl.nil:Sl Bs)) fun s3_28=>on (s3_28) fun s3_4=>(Z78_q s3_4).bind fun x6=>Option.bind (Z77_q12 a0 x6.l (Sl.nil:Sl Z6)) fun s6_13=>on (s6_13) fun s6_9=>some s6_9
theorem Z77_eq (a0:(Sl Z6)):Z77 a0=Z77_q a0:=by
 unfold Z77 Z77_q;refine Qs ?_;refine Q.wrapOO fun Kb27 hKb27=>?_;refine Z77_l27_qe  Kb27 ?_ _ _ _ ⟨Nat.succ_pos _,by omega⟩;intro n27 s3_28 s4_29;refine Qe (hKb27 _) ?_;refine Q.wrapPO fun Kj3 hKj3=>?_;have hj3:∀(s3_4:(Sl Bs)),Z77_j3 a0 s3_4=Kj3 s3_4:=by
  intro s3_4;refine Qe (hKj3 _) ?_;unfold Z77_j3;refine Q.bindO (Z78_eq _) fun x6=>?_;refine Q.wrapOO fun Kb12 hKb12=>?_;refine Z77_l12_qe  Kb12 ?_ _ _ _ ⟨Nat.succ_pos _,by omega⟩;intro n12 s6_13 s7_14;refine Qe (hKb12 _) ?_;refine Q.wrapPO fun Kj8 hKj8=>?_;have hj8:∀(s6_9:(Sl Z6)),Z77_j8  s6_9=Kj8 s6_9:=by
   intro s6_9;refine Qe (hKj8 _) ?_;unfold Z77_j8;all_goals rfl
  all_goals exact hj8 _
 all_goals exact hj3 _
def Z73_q49 :List TDef->(Sl Bs)->Option ((Sl Bs))
 | [],s3_50=>some s3_50
 | h49::r49,s3_50=>on (h49) fun x57=>(appC 16 s3_50 (⟨false,[x57.FName]⟩:Sl Bs)).bind fun x58=>Z73_q49  (r49) x58
theorem Z73_l49_qe {a0:TDoc}  (Kb49:((Sl Bs))->Option TDoc) (hend:∀(n49:Nat) (s3_50:(Sl Bs)) (s4_51:Nat),Z73_j3 a0  s3_50=Kb49 s3_50):∀(n49:Nat) (s3_50:(Sl Bs)) (s4_51:Nat),(0<n49/\a0.FDefs.l.length<s4_51+n49)->Z73_l49 a0 n49 s3_50 s4_51=Option.bind (Z73_q49  (a0.FDefs.l.drop s4_51) s3_50) Kb49:=by
 intro n49;induction n49 with
 | zero=>intro s3_50 s4_51 hn; exact absurd hn.1 (by omega)
 | succ n49 ih49 =>
  intro s3_50 s4_51 hn;rw [Z73_l49];by_cases hlt:s4_51<a0.FDefs.l.length
  ·obtain⟨h49,hh49⟩:=Qa hlt;rw [Q.drop_of hh49,Z73_q49];refine QT hlt ?_;refine Q.bindPO hh49 fun x57 hx_x57=>?_;refine Q.bindO rfl fun x58=>?_;all_goals exact ih49 _ _ ⟨by omega,by omega⟩
  rw [dL (by omega),Z73_q49];refine QF hlt ?_;exact hend n49 s3_50 s4_51
def Z73_q37 (x24:TDef):List Int->TDef->Option (TDef)
 | [],y39_l2=>some y39_l2
 | h37::r37,y39_l2=>on (h37) fun x45=>(idxC x24.FImplements.l x45).bind fun x46=>(appC 16 y39_l2.FImplements (⟨false,[x46]⟩:Sl Bs)).bind fun x47=>Z73_q37 x24 (r37) (TDef.mk y39_l2.FKind y39_l2.FName x47 y39_l2.FDirs y39_l2.FFields y39_l2.FMembers y39_l2.FInputs)
theorem Z73_l37_qe {s7_14:Nat}{y15_l1:TDoc}{x24:TDef}{x32:(Sl Int)}{k_next_13:Nat->TDoc->Option TDoc}  (Kb37:(TDef)->Option TDoc) (hend:∀(n37:Nat) (s11_38:Nat) (y39_l2:TDef),Z73_j33 s7_14 y15_l1 k_next_13 y39_l2=Kb37 y39_l2):∀(n37:Nat) (s11_38:Nat) (y39_l2:TDef),(0<n37/\x32.l.length<s11_38+n37)->Z73_l37 s7_14 y15_l1 x24 x32 k_next_13 n37 s11_38 y39_l2=Option.bind (Z73_q37 x24 (x32.l.drop s11_38) y39_l2) Kb37:=by
 intro n37;induction n37 with
 | zero=>intro s11_38 y39_l2 hn; exact absurd hn.1 (by omega)
 | succ n37 ih37 =>
  intro s11_38 y39_l2 hn;rw [Z73_l37];by_cases hlt:s11_38<x32.l.length
  ·obtain⟨h37,hh37⟩:=Qa hlt;rw [Q.drop_of hh37,Z73_q37];refine QT hlt ?_;refine Q.bindPO hh37 fun x45 hx_x45=>?_;refine Q.bindO rfl fun x46=>?_;refine Q.bindO rfl fun x47=>?_;all_goals exact ih37 _ _ ⟨by omega,by omega⟩
  rw [dL (by omega),Z73_q37];refine QF hlt ?_;exact hend n37 s11_38 y39_l2
def Z73_q13 (a0:TDoc):List Int->TDoc->Option (TDoc)
 | [],y15_l1=>some y15_l1
 | h13::r13,y15_l1=>on (h13) fun x23=>(idxC a0.FDefs.l x23).bind fun x24=>(Z74_q x24.FDirs).bind fun x26=>(Z75_q x24.FFields).bind fun x27=>(Z77_q x24.FMembers).bind fun x28=>(Z76_q x24.FInputs).bind fun x29=>(Z78_q x24.FImplements).bind fun x32=>Option.bind (Z73_q37 x24 x32.l (TDef.mk x24.FKind x24.FName (Sl.nil:Sl Bs) x26 x27 x28 x29)) fun y39_l2=>on (y39_l2) fun y34_l2=>(appC 144 y15_l1.FDefs (⟨false,[y34_l2]⟩:Sl TDef)).bind fun x35=>on ((TDoc.mk x35)) fun y21_l1=>Z73_q13 a0 (r13) y21_l1
theorem Z73_l13_qe {a0:TDoc}{x6:(Sl Int)}  (Kb13:(TDoc)->Option TDoc) (hend:∀(n13:Nat) (s7_14:Nat) (y15_l1:TDoc),Z73_j9   y15_l1=Kb13 y15_l1):∀(n13:Nat) (s7_14:Nat) (y15_l1:TDoc),(0<n13/\x6.l.length<s7_14+n13)->Z73_l13 a0 x6 n13 s7_14 y15_l1=Option.bind (Z73_q13 a0 (x6.l.drop s7_14) y15_l1) Kb13:=by
 intro n13;induction n13 with
 | zero=>intro s7_14 y15_l1 hn; exact absurd hn.1 (by omega)
 | succ n13 ih13 =>
  intro s7_14 y15_l1 hn;rw [Z73_l13];by_cases hlt:s7_14<x6.l.length
  ·obtain⟨h13,hh13⟩:=Qa hlt;rw [Q.drop_of hh13,Z73_q13];refine QT hlt ?_;refine Q.bindPO hh13 fun x23 hx_x23=>?_;refine Q.bindO rfl fun x24=>?_;refine Q.bindO (Z74_eq _) fun x26=>?_;refine Q.bindO (Z75_eq _) fun x27=>?_;refine Q.bindO (Z77_eq _) fun x28=>?_;refine Q.bindO (Z76_eq _) fun x29=>?_;refine Q.bindO (Z78_eq _) fun x32=>?_;refine Q.wrapOO fun Kb37 hKb37=>?_;refine Z73_l37_qe  Kb37 ?_ _ _ _ ⟨Nat.succ_pos _,by omega⟩
   intro n37 s11_38 y39_l2;refine Qe (hKb37 _) ?_;refine Q.wrapPO fun Kj33 hKj33=>?_;have hj33:∀(y34_l2:TDef),Z73_j33 s7_14 y15_l1 (Z73_l13 a0 x6 n13) y34_l2=Kj33 y34_l2:=by
    intro y34_l2;refine Qe (hKj33 _) ?_;unfold Z73_j33;refine Q.bindO rfl fun x35=>?_;refine Q.wrapPO fun Kj20 hKj20=>?_;have hj20:∀(y21_l1:TDoc),Z73_j20 s7_14 (Z73_l13 a0 x6 n13) y21_l1=Kj20 y21_l1:=by
     intro y21_l1;refine Qe (hKj20 _) ?_;unfold Z73_j20;all_goals exact ih13 _ _ ⟨by omega,by omega⟩
    all_goals exact hj20 _
   all_goals exact hj33 _
  rw [dL (by omega),Z73_q13];refine QF hlt ?_;exact hend n13 s7_14 y15_l1
def Z73_q (a0:TDoc):Option TDoc:=Option.bind (Z73_q49  a0.FDefs.l (Sl.nil:Sl Bs)) fun s3_50=>on (s3_50) fun s3_4=>(Z78_q s3_4).bind fun x6=>Option.bind (Z73_q13 a0 x6.l TDoc.zero) fun y15_l1=>on (y15_l1) fun y10_l1=>some y10_l1
theorem Z73_eq (a0:TDoc):Z73 a0=Z73_q a0:=by
 unfold Z73 Z73_q;refine Qs ?_;refine Q.wrapOO fun Kb49 hKb49=>?_;refine Z73_l49_qe  Kb49 ?_ _ _ _ ⟨Nat.succ_pos _,by omega⟩;intro n49 s3_50 s4_51;refine Qe (hKb49 _) ?_;refine Q.wrapPO fun Kj3 hKj3=>?_;have hj3:∀(s3_4:(Sl Bs)),Z73_j3 a0 s3_4=Kj3 s3_4:=by
  intro s3_4;refine Qe (hKj3 _) ?_;unfold Z73_j3;refine Q.bindO (Z78_eq _) fun x6=>?_;refine Q.wrapOO fun Kb13 hKb13=>?_;refine Z73_l13_qe  Kb13 ?_ _ _ _ ⟨Nat.succ_pos _,by omega⟩;intro n13 s7_14 y15_l1;refine Qe (hKb13 _) ?_;refine Q.wrapPO fun Kj9 hKj9=>?_;have hj9:∀(y10_l1:TDoc),Z73_j9  y10_l1=Kj9 y10_l1:=by
   intro y10_l1;refine Qe (hKj9 _) ?_;unfold Z73_j9;all_goals rfl
  all_goals exact hj9 _
 all_goals exact hj3 _
def Z113_q7 :List Z5->(Sl Z5)->Option ((Sl Z5))
 | [],s3_8=>some s3_8
 | h7::r7,s3_8=>on (h7) fun x16=>(appC 168 s3_8 (⟨false,[(Z5.mk x16.FName x16.FType x16.FHas x16.FDefault (Sl.nil:Sl TDir))]⟩:Sl Z5)).bind fun x18=>Z113_q7  (r7) x18
theorem Z113_l7_qe {a0:(Sl Z5)}  (Kb7:((Sl Z5))->Option (Sl Z5)) (hend:∀(n7:Nat) (s3_8:(Sl Z5)) (s4_9:Nat),Z113_j3   s3_8=Kb7 s3_8):∀(n7:Nat) (s3_8:(Sl Z5)) (s4_9:Nat),(0<n7/\a0.l.length<s4_9+n7)->Z113_l7 a0 n7 s3_8 s4_9=Option.bind (Z113_q7  (a0.l.drop s4_9) s3_8) Kb7:=by
 intro n7;induction n7 with
 | zero=>intro s3_8 s4_9 hn; exact absurd hn.1 (by omega)
 | succ n7 ih7 =>
  intro s3_8 s4_9 hn;rw [Z113_l7];by_cases hlt:s4_9<a0.l.length
  ·obtain⟨h7,hh7⟩:=Qa hlt;rw [Q.drop_of hh7,Z113_q7];refine QT hlt ?_;refine Q.bindPO hh7 fun x16 hx_x16=>?_;refine Q.bindO rfl fun x18=>?_;all_goals exact ih7 _ _ ⟨by omega,by omega⟩
  rw [dL (by omega),Z113_q7];refine QF hlt ?_;exact hend n7 s3_8 s4_9
def Z113_q (a0:(Sl Z5)):Option (Sl Z5):=Option.bind (Z113_q7  a0.l (Sl.nil:Sl Z5)) fun s3_8=>on (s3_8) fun s3_4=>some s3_4
theorem Z113_eq (a0:(Sl Z5)):Z113 a0=Z113_q a0:=by
 unfold Z113 Z113_q;refine Qs ?_;refine Q.wrapOO fun Kb7 hKb7=>?_;refine Z113_l7_qe  Kb7 ?_ _ _ _ ⟨Nat.succ_pos _,by omega⟩;intro n7 s3_8 s4_9;refine Qe (hKb7 _) ?_;refine Q.wrapPO fun Kj3 hKj3=>?_;have hj3:∀(s3_4:(Sl Z5)),Z113_j3  s3_4=Kj3 s3_4:=by
  intro s3_4;refine Qe (hKj3 _) ?_;unfold Z113_j3;all_goals rfl
 all_goals exact hj3 _
def Z112_q47 (h8:TDef):List Z4->TDef->Option (TDef)
 | [],y49_l2=>some y49_l2
 | h47::r47,y49_l2=>on (h8) fun x57=>on (h47) fun x58=>(Z113_q x58.FArgs).bind fun x61=>(appC 104 y49_l2.FFields (⟨false,[(Z4.mk x58.FName x61 x58.FType (Sl.nil:Sl TDir))]⟩:Sl Z4)).bind fun x62=>Z112_q47 h8 (r47) (TDef.mk y49_l2.FKind y49_l2.FName y49_l2.FImplements y49_l2.FDirs x62 y49_l2.FMembers y49_l2.FInputs)
theorem Z112_l47_qe {a0:TDoc}{s4_9:Nat}{y10_l1:TDoc}{k_next_8:Nat->TDoc->Option TDoc}{h8:TDef}(hh8:a0.FDefs.l[s4_9]?=some h8) (Kb47:(TDef)->Option TDoc) (hend:∀(n47:Nat) (s6_48:Nat) (y49_l2:TDef),Z112_j25 a0 s4_9 y10_l1 k_next_8 y49_l2=Kb47 y49_l2):∀(n47:Nat) (s6_48:Nat) (y49_l2:TDef),(0<n47/\h8.FFields.l.length<s6_48+n47)->Z112_l47 a0 s4_9 y10_l1 k_next_8 n47 s6_48 y49_l2=Option.bind (Z112_q47 h8 (h8.FFields.l.drop s6_48) y49_l2) Kb47:=by
 intro n47;induction n47 with
 | zero=>intro s6_48 y49_l2 hn; exact absurd hn.1 (by omega)
 | succ n47 ih47 =>
  intro s6_48 y49_l2 hn;rw [Z112_l47];refine Q.preB hh8 fun x52 hx_x52=>?_;subst hx_x52;by_cases hlt:s6_48<x52.FFields.l.length
  ·obtain⟨h47,hh47⟩:=Qa hlt;rw [Q.drop_of hh47,Z112_q47];refine QT hlt ?_;refine Q.bindPO hh8 fun x57 hx_x57=>?_;refine Q.bindPO (by first|exact hh47|(simp only [hx_x57]; exact hh47)|(simp only [hx_x57] at hh47 ⊢; exact hh47)) fun x58 hx_x58=>?_;refine Q.bindO (Z113_eq _) fun x61=>?_;refine Q.bindO rfl fun x62=>?_;all_goals exact ih47 _ _ ⟨by omega,by omega⟩
  rw [dL (by omega),Z112_q47];refine QF hlt ?_;exact hend n47 s6_48 y49_l2
def Z112_q34 (h8:TDef):List Z6->TDef->Option (TDef)
 | [],y36_l2=>some y36_l2
 | h34::r34,y36_l2=>on (h8) fun x43=>on (h34) fun x44=>(appC 40 y36_l2.FMembers (⟨false,[(Z6.mk x44.FName (Sl.nil:Sl TDir))]⟩:Sl Z6)).bind fun x45=>Z112_q34 h8 (r34) (TDef.mk y36_l2.FKind y36_l2.FName y36_l2.FImplements y36_l2.FDirs y36_l2.FFields x45 y36_l2.FInputs)
theorem Z112_l34_qe {a0:TDoc}{s4_9:Nat}{y10_l1:TDoc}{k_next_8:Nat->TDoc->Option TDoc}{h8:TDef}(hh8:a0.FDefs.l[s4_9]?=some h8) (Kb34:(TDef)->Option TDoc) (hend:∀(n34:Nat) (s8_35:Nat) (y36_l2:TDef),Z112_j27 a0 s4_9 y10_l1 k_next_8 y36_l2=Kb34 y36_l2):∀(n34:Nat) (s8_35:Nat) (y36_l2:TDef),(0<n34/\h8.FMembers.l.length<s8_35+n34)->Z112_l34 a0 s4_9 y10_l1 k_next_8 n34 s8_35 y36_l2=Option.bind (Z112_q34 h8 (h8.FMembers.l.drop s8_35) y36_l2) Kb34:=by
 intro n34;induction n34 with
 | zero=>intro s8_35 y36_l2 hn; exact absurd hn.1 (by omega)
 | succ n34 ih34 =>
  intro s8_35 y36_l2 hn;rw [Z112_l34];refine Q.preB hh8 fun x39 hx_x39=>?_;subst hx_x39;by_cases hlt:s8_35<x39.FMembers.l.length
  ·obtain⟨h34,hh34⟩:=Qa hlt;rw [Q.drop_of hh34,Z112_q34];refine QT hlt ?_;refine Q.bindPO hh8 fun x43 hx_x43=>?_;refine Q.bindPO (by first|exact hh34|(simp only [hx_x43]; exact hh34)|(simp only [hx_x43] at hh34 ⊢; exact hh34)) fun x44 hx_x44=>?_;refine Q.bindO rfl fun x45=>?_;all_goals exact ih34 _ _ ⟨by omega,by omega⟩
  rw [dL (by omega),Z112_q34];refine QF hlt ?_;exact hend n34 s8_35 y36_l2
def Z112_q8 :List TDef->TDoc->Option (TDoc)
 | [],y10_l1=>some y10_l1
 | h8::r8,y10_l1=>on (h8) fun x18=>Option.bind (Z112_q47 h8 h8.FFields.l (TDef.mk x18.FKind x18.FName x18.FImplements (Sl.nil:Sl TDir) (Sl.nil:Sl Z4) (Sl.nil:Sl Z6) (Sl.nil:Sl Z5))) fun y49_l2=>on (y49_l2) fun y26_l2=>Option.bind (Z112_q34 h8 h8.FMembers.l y26_l2) fun y36_l2=>on (y36_l2) fun y28_l2=>on (h8) fun x30=>(Z113_q x30.FInputs).bind fun x31=>(appC 144 y10_l1.FDefs (⟨false,[(TDef.mk y28_l2.FKind y28_l2.FName y28_l2.FImplements y28_l2.FDirs y28_l2.FFields y28_l2.FMembers x31)]⟩:Sl TDef)).bind fun x32=>on ((TDoc.mk x32)) fun y16_l1=>Z112_q8  (r8) y16_l1
theorem Z112_l8_qe {a0:TDoc}  (Kb8:(TDoc)->Option TDoc) (hend:∀(n8:Nat) (s4_9:Nat) (y10_l1:TDoc),Z112_j4   y10_l1=Kb8 y10_l1):∀(n8:Nat) (s4_9:Nat) (y10_l1:TDoc),(0<n8/\a0.FDefs.l.length<s4_9+n8)->Z112_l8 a0 n8 s4_9 y10_l1=Option.bind (Z112_q8  (a0.FDefs.l.drop s4_9) y10_l1) Kb8:=by
 intro n8;induction n8 with
 | zero=>intro s4_9 y10_l1 hn; exact absurd hn.1 (by omega)
 | succ n8 ih8 =>
  intro s4_9 y10_l1 hn;rw [Z112_l8];by_cases hlt:s4_9<a0.FDefs.l.length
  ·obtain⟨h8,hh8⟩:=Qa hlt;rw [Q.drop_of hh8,Z112_q8];refine QT hlt ?_;refine Q.bindPO hh8 fun x18 hx_x18=>?_;refine Q.wrapOO fun Kb47 hKb47=>?_;refine Z112_l47_qe hh8 Kb47 ?_ _ _ _ ⟨by rw [hh8]; exact Nat.succ_pos _,by rw [hh8]; simp only [Option.elim]; omega⟩;intro n47 s6_48 y49_l2;refine Qe (hKb47 _) ?_;refine Q.wrapPO fun Kj25 hKj25=>?_;have hj25:∀(y26_l2:TDef),Z112_j25 a0 s4_9 y10_l1 (Z112_l8 a0 n8) y26_l2=Kj25 y26_l2:=by
    intro y26_l2;refine Qe (hKj25 _) ?_;unfold Z112_j25;refine Q.wrapOO fun Kb34 hKb34=>?_;refine Z112_l34_qe hh8 Kb34 ?_ _ _ _ ⟨by rw [hh8]; exact Nat.succ_pos _,by rw [hh8]; simp only [Option.elim]; omega⟩;intro n34 s8_35 y36_l2;refine Qe (hKb34 _) ?_;refine Q.wrapPO fun Kj27 hKj27=>?_;have hj27:∀(y28_l2:TDef),Z112_j27 a0 s4_9 y10_l1 (Z112_l8 a0 n8) y28_l2=Kj27 y28_l2:=by
     intro y28_l2;refine Qe (hKj27 _) ?_;unfold Z112_j27;refine Q.bindPO hh8 fun x30 hx_x30=>?_;refine Q.bindO (Z113_eq _) fun x31=>?_;refine Q.bindO rfl fun x32=>?_;refine Q.wrapPO fun Kj15 hKj15=>?_;have hj15:∀(y16_l1:TDoc),Z112_j15 s4_9 (Z112_l8 a0 n8) y16_l1=Kj15 y16_l1:=by
      intro y16_l1;refine Qe (hKj15 _) ?_;unfold Z112_j15;all_goals exact ih8 _ _ ⟨by omega,by omega⟩
     all_goals exact hj15 _
    all_goals exact hj27 _
   all_goals exact hj25 _
  rw [dL (by omega),Z112_q8];refine QF hlt ?_;exact hend n8 s4_9 y10_l1
def Z112_q (a0:TDoc):Option TDoc:=Option.bind (Z112_q8  a0.FDefs.l TDoc.zero) fun y10_l1=>on (y10_l1) fun y5_l1=>some y5_l1
theorem Z112_eq (a0:TDoc):Z112 a0=Z112_q a0:=by
 unfold Z112 Z112_q;refine Qs ?_;refine Q.wrapOO fun Kb8 hKb8=>?_;refine Z112_l8_qe  Kb8 ?_ _ _ _ ⟨Nat.succ_pos _,by omega⟩;intro n8 s4_9 y10_l1;refine Qe (hKb8 _) ?_;refine Q.wrapPO fun Kj4 hKj4=>?_;have hj4:∀(y5_l1:TDoc),Z112_j4  y5_l1=Kj4 y5_l1:=by
  intro y5_l1;refine Qe (hKj4 _) ?_;unfold Z112_j4;all_goals rfl
 all_goals exact hj4 _
def Z30_q (a0:TDoc) (a1:TDoc):Option Bool:=(Z32_q a0).bind fun x4=>guardO (!(!x4)) (Z32_q a1) false fun x5=>bif ((!x4)||(!x5)) then((Z31).bind fun x8=>some x8) else((Z112_q a0).bind fun x10=>(Z73_q x10).bind fun x11=>(Z112_q a1).bind fun x12=>(Z73_q x12).bind fun x13=>(Z70_q x11 x13).bind fun x14=>(Z10_q a0 a0).bind fun x16=>guardO ((decide (((x16.l.length:Nat):Int)=(0:Int)))) (Z10_q a0 a1) (Sl.nil:Sl Z2) fun x18=>guardO (((decide (((x16.l.length:Nat):Int)=(0:Int)))&&(((decide (((x18.l.length:Nat):Int)=(0:Int)))==x14)))) (Z31) false fun x19=>some (((decide (((x16.l.length:Nat):Int)=(0:Int)))&&(((decide (((x18.l.length:Nat):Int)=(0:Int)))==x14)))&&x19))
theorem Z30_eq (a0:TDoc) (a1:TDoc):Z30 a0 a1=Z30_q a0 a1:=by
 unfold Z30 Z30_q;refine Qs ?_;refine Q.bindO (Z32_eq _) fun x4=>?_;refine Q.guardOO (Z32_eq _) fun x5=>?_;refine Q.condO ?_ ?_
 ·refine Q.bindO rfl fun x8=>?_;all_goals rfl
 refine Q.bindO (Z112_eq _) fun x10=>?_;refine Q.bindO (Z73_eq _) fun x11=>?_;refine Q.bindO (Z112_eq _) fun x12=>?_;refine Q.bindO (Z73_eq _) fun x13=>?_;refine Q.bindO (Z70_eq _ _) fun x14=>?_;refine Q.bindO (Z10_eq _ _) fun x16=>?_;refine Q.guardOO (Z10_eq _ _) fun x18=>?_;refine Q.guardOO rfl fun x19=>?_;all_goals rfl
end Go.Proofs

namespace Go.Proofs
theorem fm_append {α β:Type}(f g:α->List β):∀l:List α,(l.flatMap fun y=>f y++g y).Perm (l.flatMap f++l.flatMap g)
 | []=>.nil
 | a::l=>by
  simp only [List.flatMap_cons,List.append_assoc];refine List.Perm.append_left _ ?_;refine((fm_append f g l).append_left _).trans ?_;rw [<- List.append_assoc,<- List.append_assoc];exact List.perm_append_comm.append_right _
theorem fm_swap {α β γ:Type}(f:α->β->List γ) (B:List β):∀A:List α,(A.flatMap fun x=>B.flatMap (f x)).Perm (B.flatMap fun y=>A.flatMap fun x=>f x y)
 | []=>by simp
 | a::A=>by
  simp only [List.flatMap_cons];exact((fm_swap f B A).append_left _).trans (fm_append _ _ B).symm
theorem fm_perm {α β:Type}(f g:α->List β):∀l:List α,(∀x∈l,(f x).Perm (g x))->(l.flatMap f).Perm (l.flatMap g)
 | [],_=>.nil
 | a::l,h=>by
  simp only [List.flatMap_cons];exact(h a (by simp)).append (fm_perm f g l fun x hx=>h x (by simp [hx]))
section
variable {α κ γ:Type} [BEq κ] [LawfulBEq κ]
def prs (key:α->κ) (w:α->α->List γ) (A B:List α):List γ:=A.flatMap fun x=>match B.find? (fun t=>key t==key x) with|some y=>w x y|none=>[]
def lon (key:α->κ) (g:α->List γ) (A B:List α):List γ:=A.flatMap fun x=>match B.find? (fun t=>key t==key x) with|some _=>[]|none=>g x
def dif (key:α->κ) (w:α->α->List γ) (g:α->List γ) (A B:List α):List γ:=A.flatMap fun x=>match B.find? (fun t=>key t==key x) with|some y=>w x y|none=>g x
def Dst (key:α->κ) (A:List α):Prop:=A.Pairwise fun x y=>key x≠key y
theorem fm_find (key:α->κ) (k:κ) (w:α->List γ):∀B:List α,Dst key B->(B.flatMap fun y=>bif key y==k then w y else [])=(match B.find? (fun t=>key t==k) with|some y=>w y|none=>[])
 | [],_=>rfl
 | b::B,h=>by
  obtain⟨h1,h2⟩:=List.pairwise_cons.mp h;rw [List.flatMap_cons,fm_find key k w B h2,List.find?_cons];cases hb:key b==k
  ·rfl
  ·have:B.find? (fun t=>key t==k)=none:=by
    rw [List.find?_eq_none];intro x hx e;exact h1 x hx ((eq_of_beq hb).trans (eq_of_beq e).symm)
   rw [this]; simp
theorem prs_perm {key:α->κ}{w w':α->α->List γ}{A B:List α}(hA:Dst key A) (hB:Dst key B) (h:∀x∈A,∀y∈B,key y=key x->(w x y).Perm (w' y x)):(prs key w A B).Perm (prs key w' B A):=by
 have e1:prs key w A B=A.flatMap fun x=>B.flatMap fun y=>bif key y==key x then w x y else []:=by
  unfold prs; congr 1; funext x; exact(fm_find key (key x) (w x) B hB).symm
 have e2:prs key w' B A=B.flatMap fun y=>A.flatMap fun x=>bif key x==key y then w' y x else []:=by
  unfold prs; congr 1; funext y; exact(fm_find key (key y) (w' y) A hA).symm
 rw [e1,e2];refine(fm_swap _ B A).trans (fm_perm _ _ B fun y hy=>fm_perm _ _ A fun x hx=>?_);cases hk:key y==key x
 ·rw [show (key x==key y)=false from by rw [beq_eq_false_iff_ne] at hk ⊢; exact fun e=>hk e.symm]; exact .nil
 ·rw [show (key x==key y)=true from beq_iff_eq.mpr (eq_of_beq hk).symm]; exact h x hx y hy (eq_of_beq hk)
omit [LawfulBEq κ] in
theorem dif_split (key:α->κ) (w:α->α->List γ) (g:α->List γ) (A B:List α):(dif key w g A B).Perm (prs key w A B++lon key g A B):=by
 refine .trans (.of_eq ?_) (fm_append _ _ A);unfold dif; congr 1; funext x;cases B.find? (fun t=>key t==key x)<;>simp
end
section
variable {α κ γ:Type} [BEq κ] [LawfulBEq κ]
omit [LawfulBEq κ] in
theorem dif_len1 {key:α->κ}{w:α->α->List γ}{g:α->List γ}{f e:α->Nat}{B:List α}:∀{A:List α},(∀x∈A,∀y∈B,(w x y).length<=f x+e y)->(∀x∈A,(g x).length<=f x) ->
  (dif key w g A B).length<=(A.map f).sum+(prs key (fun _ y=>List.replicate (e y) ()) A B).length
 | [],_,_=>by simp [dif]
 | x::A,hw,hg=>by
  have ih:=dif_len1 (key:=key) (w:=w) (g:=g) (f:=f) (e:=e) (B:=B) (A:=A) (fun x hx=>hw x (.tail _ hx)) (fun x hx=>hg x (.tail _ hx));unfold dif prs at ih ⊢;simp only [] at ih;simp only [List.flatMap_cons,List.length_append,List.map_cons,List.sum_cons];have h1:=hg x (.head _);cases hb:B.find? (fun t=>key t==key x) with
  | none=>simp only [List.length_nil]; omega
  | some y =>
   have h2:=hw x (.head _) y (List.mem_of_find?_eq_some hb);simp only [List.length_replicate]; omega
omit [LawfulBEq κ] in
theorem lon_len {key:α->κ}{n:α->List γ}{e:α->Nat}{A:List α}:∀{B:List α},(∀y∈B,(n y).length<=e y)->(lon key n B A).length+(prs key (fun y _=>List.replicate (e y) ()) B A).length<=(B.map e).sum
 | [],_=>by simp [lon,prs]
 | y::B,hn=>by
  have ih:=lon_len (key:=key) (n:=n) (e:=e) (A:=A) (B:=B) (fun x hx=>hn x (.tail _ hx));unfold lon prs at ih ⊢;simp only [] at ih;simp only [List.flatMap_cons,List.length_append,List.map_cons,List.sum_cons];have h1:=hn y (.head _);cases hb:A.find? (fun t=>key t==key y) with
  | none=>simp only [List.length_nil]; omega
  | some x=>simp only [List.length_replicate,List.length_nil]; omega
theorem dif_len {key:α->κ}{w:α->α->List γ}{g n:α->List γ}{f e:α->Nat}{A B:List α}(hA:Dst key A) (hB:Dst key B) (hw:∀x∈A,∀y∈B,(w x y).length<=f x+e y) (hg:∀x∈A,(g x).length<=f x) (hn:∀y∈B,(n y).length<=e y) :
  (dif key w g A B++lon key n B A).length<=(A.map f).sum+(B.map e).sum:=by
 have h1:=dif_len1 (key:=key) hw hg;have h2:=lon_len (key:=key) (A:=A) hn;have h3:=(prs_perm (key:=key) (w:=fun _ y=>List.replicate (e y) ()) (w':=fun y _=>List.replicate (e y) ()) hA hB (fun _ _ _ _ _=>.rfl)).length_eq;rw [List.length_append]; omega
end
end Go.Proofs

namespace Go.Proofs
open Go Go.Ab
def Tl {α:Type}(o:Option (Sl α)) (b:Nat):Prop:=∃r,o=some r/\r.l.length<=b
theorem Tl.mono {α:Type}{o:Option (Sl α)}{a b:Nat}(h:Tl o a) (hb:a<=b):Tl o b:=by obtain⟨r,h1,h2⟩:=h; exact⟨r,h1,by omega⟩
theorem app24 {s r:Sl Z3}(h:s.l.length+r.l.length<=1073741824):∃v,appC 24 s r=some v/\v.l.length=s.l.length+r.l.length:=⟨_,appC_ok (by decide) (by omega),by simp⟩
theorem Tl.add1 {s:Sl Z3}{x:Z3}{b:Nat}(h:s.l.length<=b) (hb:b<=1000000000):Tl ((appC 24 s (⟨false,[x]⟩:Sl Z3)).bind fun y=>some y) (b+1):=by
 obtain⟨v,h1,h2⟩:=app24 (s:=s) (r:=⟨false,[x]⟩) (by simp; omega);exact⟨v,by rw [h1]; rfl,by rw [h2]; simp; omega⟩
theorem Tl.bind {α β:Type}{o:Option (Sl α)}{k:Sl α->Option (Sl β)}{a b:Nat}(h:Tl o a) (hk:∀r:Sl α,r.l.length<=a->Tl (k r) b):Tl (o.bind k) b:=by
 obtain⟨r,h1,h2⟩:=h;rw [h1]; exact hk r h2
theorem Bs.len_le (s:Bs):s.length<=Bs.sz s:=Nat.le_succ _
theorem reserved_ok (s:Bs):∃v,Z35_q s=some v:=by
 unfold Z35_q
 match s with
 | []=>exact⟨_,rfl⟩
 | [a]=>exact⟨_,rfl⟩
 | a::b::r =>
  rw [show decide ((2:Int)<=(((a::b::r:Bs).length:Nat):Int))=true from dT (by simp only [List.length_cons]; omega)];simp only [guardO,if_true,List.getElem?_cons_zero,List.getElem?_cons_succ,oB,Bool.true_and]
  split<;>exact⟨_,rfl⟩
theorem allowed_ok (s:Bs):∃v,Z89_q s=some v:=by
 unfold Z89_q;simp only [Ab.on];cases Z34_q s
 ·exact⟨_,rfl⟩
 ·obtain⟨v,hv⟩:=reserved_ok s;simp only [guardO,if_true,hv];exact⟨_,rfl⟩
theorem names_tl (a:Bs) (b c:Bool) (d:Bs):Tl (Z98_q a b c d) 2:=by
 unfold Z98_q;obtain⟨v,hv⟩:=allowed_ok a;have h1:∀z:Bool,Tl (bif z then((appC 24 (Sl.nil:Sl Z3) (⟨false,[(Z3.mk (6:Int) d)]⟩:Sl Z3)).bind fun x14=>some x14) else(some (Sl.nil:Sl Z3))) 1:=by
  intro z;cases z
  ·exact⟨Sl.nil,rfl,by simp [Sl.nil]⟩
  ·exact Tl.add1 (s:=Sl.nil) (b:=0) (Nat.le_refl _) (by omega)
 have h2:∀z,Tl (Option.bind (bif z then((appC 24 (Sl.nil:Sl Z3) (⟨false,[(Z3.mk (6:Int) d)]⟩:Sl Z3)).bind fun x14=>some x14) else(some (Sl.nil:Sl Z3))) fun s9_4=>Option.bind (bif c then((appC 24 s9_4 (⟨false,[(Z3.mk (7:Int) d)]⟩:Sl Z3)).bind fun x10=>some x10) else(some s9_4)) fun s9_6=>some s9_6) 2:=by
  intro z;refine(h1 z).bind fun r hr=>?_;cases c
  ·exact⟨r,rfl,by omega⟩
  ·refine(Tl.add1 hr (by omega)).bind fun q hq=>⟨q,rfl,by omega⟩
 cases b
 ·simp only [guardO,Bool.not_false,if_true,hv,oB]; exact h2 _
 ·exact h2 true
theorem Tl.appT {s:Sl Z3}{o:Option (Sl Z3)}{a b c:Nat}{k:Sl Z3->Option (Sl Z3)}(hs:s.l.length<=a) (h:Tl o b) (hb:a+b<=1000000000) (hk:∀r:Sl Z3,r.l.length<=a+b->Tl (k r) c):Tl (o.bind fun x=>(appC 24 s x).bind k) c:=by
 obtain⟨r,h1,h2⟩:=h;obtain⟨v,h3,h4⟩:=app24 (s:=s) (r:=r) (by omega);rw [h1,oB,h3,oB];exact hk v (by omega)
theorem inputs_loop (d:TDoc) (a1:Sl Z5) (p q:Bs) (hp:p.length<=10000000) (hq:q.length<=10):∀(l:List Z5) (i:Nat) (s:Sl Z3),(∀x∈l,x.FName.length<=1048576)->s.l.length+3*l.length<=900000000->Tl (Z95_q7 d a1 p q l i s) (s.l.length+3*l.length)
 | [],i,s,_,_=>⟨s,rfl,by simp⟩
 | x::l,i,s,hx,hs=>by
  have hn:=hx x (.head _);simp only [List.length_cons] at hs;rw [Z95_q7];simp only [Ab.on];rw [catC_ok (by omega),oB,catC_ok (by simp; omega),oB];refine Tl.appT (Nat.le_refl _) (names_tl _ _ _ _) (by omega) fun r hr=>?_;have key:∀(y:Z3),Tl (Option.bind ((appC 24 r (⟨false,[y]⟩:Sl Z3)).bind fun z=>some z) fun s9_15=>Z95_q7 d a1 p q l (i+1) s9_15) (s.l.length+3*(l.length+1)):=by
   intro y;refine(Tl.add1 hr (by omega)).bind fun v hv=>?_;exact(inputs_loop d a1 p q hp hq l (i+1) v (fun z hz=>hx z (.tail _ hz)) (by omega)).mono (by omega)
  rw [List.length_cons];cases Z96_q d x.FType.FName
  ·exact key _
  ·cases Z86_q d x.FType.FName
   ·exact key _
   ·exact(inputs_loop d a1 p q hp hq l (i+1) r (fun z hz=>hx z (.tail _ hz)) (by omega)).mono (by omega)
theorem inputs_tl (d:TDoc) (a1:Sl Z5) (p q:Bs) (hp:p.length<=10000000) (hq:q.length<=10) (h1:Sl.sz Z5.sz a1<=1048576):Tl (Z95_q d a1 p q) (3*a1.l.length):=by
 unfold Z95_q;have hl:=Sl.len_le (f:=Z5.sz) a1 (fun x=>Z5.pos x);have:=inputs_loop d a1 p q hp hq a1.l 0 Sl.nil (fun x hx=>by
  have h2:=Sl.mem_le (f:=Z5.sz) hx;have h3:=x.sz_def;have h4:x.FName.length<=Bs.sz x.FName:=Bs.len_le _;omega) (by simp [Sl.nil]; omega)
 obtain⟨r,h2,h3⟩:=this;rw [h2];exact⟨r,rfl,by simpa [Sl.nil] using h3⟩
theorem fields_loop (d:TDoc) (a1:TDef) (ha:a1.FName.length<=1048576):∀(l:List Z4) (i:Nat) (s:Sl Z3),(l.map Z4.sz).sum<=1048576->s.l.length+3*(l.map Z4.sz).sum<=900000000->Tl (Z93_q7 d a1 l i s) (s.l.length+3*(l.map Z4.sz).sum)
 | [],i,s,_,_=>⟨s,rfl,by simp⟩
 | x::l,i,s,hx,hs=>by
  simp only [List.map_cons,List.sum_cons] at hx hs;have h3:=x.sz_def;have h4:x.FName.length<=Bs.sz x.FName:=Bs.len_le _;have h5:=Sl.len_le (f:=Z5.sz) x.FArgs (fun x=>Z5.pos x);have h6:=Bs.sz_pos x.FName;rw [Z93_q7];simp only [Ab.on];rw [catC_ok (by simp; omega),oB,catC_ok (by simp; omega),oB];refine Tl.appT (Nat.le_refl _) (names_tl _ _ _ _) (by omega) fun r hr=>?_;have rest:∀v:Sl Z3,v.l.length<=s.l.length+3->Tl ((catC (a1.FName++[46]++x.FName) ([40]:Bs)).bind fun x31=>(Z95_q d x.FArgs x31 ([41]:Bs)).bind fun x32=>(appC 24 v x32).bind fun x33=>Z93_q7 d a1 l (i+1) x33) (s.l.length+3*(x.sz+(l.map Z4.sz).sum)):=by
   intro v hv;rw [catC_ok (by simp; omega),oB];refine Tl.appT hv (inputs_tl d x.FArgs _ _ (by simp; omega) (by simp) (by omega)) (by omega) fun w hw=>?_;exact(fields_loop d a1 ha l (i+1) w (by omega) (by omega)).mono (by omega)
  have key:∀(y:Z3),Tl (Option.bind ((appC 24 r (⟨false,[y]⟩:Sl Z3)).bind fun z=>some z) fun s5_30=>(catC (a1.FName++[46]++x.FName) ([40]:Bs)).bind fun x31=>(Z95_q d x.FArgs x31 ([41]:Bs)).bind fun x32=>(appC 24 s5_30 x32).bind fun x33=>Z93_q7 d a1 l (i+1) x33) (s.l.length+3*(x.sz+(l.map Z4.sz).sum)):=by
   intro y;exact(Tl.add1 hr (by omega)).bind fun v hv=>rest v (by omega)
  simp only [List.map_cons,List.sum_cons];cases Z96_q d x.FType.FName
  ·exact key _
  ·cases hz:((!Z88_q x.FType.FName)&&(Z84_q d x.FType.FName).2)&&decide ((Z84_q d x.FType.FName).1.FKind=5)
   ·exact rest r (by omega)
   ·exact key _
theorem fields_tl (d:TDoc) (a1:TDef) (h:a1.sz<=1048576):Tl (Z93_q d a1) (3*a1.sz):=by
 unfold Z93_q;have h3:=a1.sz_def;have h4:a1.FName.length<=Bs.sz a1.FName:=Bs.len_le _;have h5:Sl.sz Z4.sz a1.FFields=1+(a1.FFields.l.map Z4.sz).sum:=rfl;obtain⟨r,h1,h2⟩:=fields_loop d a1 (by omega) a1.FFields.l 0 Sl.nil (by omega) (by simp [Sl.nil]; omega);rw [h1];exact⟨r,rfl,by simp [Sl.nil] at h2; omega⟩
theorem again_ok (a:TDef) (x:Z6):∀(n i:Nat) (b:Bool),i+n<=a.FMembers.l.length->∃v,Z97_q26 a x n i b=some v
 | 0,_,b,_=>⟨b,rfl⟩
 | n+1,i,b,h=>by
  rw [Z97_q26];cases b
  ·simp only [guardO,Bool.not_false,if_true];rw [List.getElem?_eq_getElem (show i<a.FMembers.l.length by omega),oB];exact again_ok a x n (i+1) _ (by omega)
  ·simp only [guardO,Bool.not_true];exact again_ok a x n (i+1) _ (by omega)
theorem members_loop (a:TDef) (ha:a.FName.length<=1048576):∀(l:List Z6) (i:Nat) (s:Sl Z3),(∀x∈l,x.FName.length<=1048576)->i+l.length=a.FMembers.l.length->s.l.length+2*l.length<=900000000->Tl (Z97_q7 a l i s) (s.l.length+2*l.length)
 | [],i,s,_,_,_=>⟨s,rfl,by simp⟩
 | x::l,i,s,hx,hi,hs=>by
  have hn:=hx x (.head _);simp only [List.length_cons] at hs hi;rw [Z97_q7];simp only [Ab.on];obtain⟨v,hv⟩:=again_ok a x i 0 false (by omega);rw [hv,oB,catC_ok (by simp; omega),oB,catC_ok (by simp; omega),oB];refine Tl.appT (Nat.le_refl _) (names_tl _ _ _ _) (by omega) fun r hr=>?_;exact(members_loop a ha l (i+1) r (fun z hz=>hx z (.tail _ hz)) (by omega) (by omega)).mono (by simp only [List.length_cons]; omega)
theorem members_tl (a:TDef) (h:a.sz<=1048576):Tl (Z97_q a) (3*a.sz):=by
 unfold Z97_q;have h3:=a.sz_def;have h4:a.FName.length<=Bs.sz a.FName:=Bs.len_le _;have h5:=Sl.len_le (f:=Z6.sz) a.FMembers (fun x=>Z6.pos x);obtain⟨r,h1,h2⟩:=members_loop a (by omega) a.FMembers.l 0 Sl.nil (fun x hx=>by
  have h6:=Sl.mem_le (f:=Z6.sz) hx;have h7:=x.sz_def;have h8:x.FName.length<=Bs.sz x.FName:=Bs.len_le _;omega) (by simp) (by simp [Sl.nil]; omega)
 rw [h1];exact⟨r,rfl,by simp [Sl.nil] at h2; omega⟩
def left (U s:List Bs):Nat:=(U.filter fun x=>!s.contains x).length
theorem left_add {U s:List Bs}{x:Bs}(hU:x∈U) (hs:s.contains x=false):left U (s++[x])+1<=left U s:=by
 have mono:∀l:List Bs,(l.filter fun y=>!(s++[x]).contains y).length<=(l.filter fun y=>!s.contains y).length:=by
  intro l;induction l with
  | nil=>simp
  | cons a r ih =>
   have ha:s.contains a=true->(s++[x]).contains a=true:=by
    intro h;simp only [List.contains_eq_mem,decide_eq_true_eq,List.mem_append] at h ⊢;exact .inl h
   cases h1:s.contains a
   ·cases h2:(s++[x]).contains a
    ·rw [List.filter_cons_of_pos (by rw [h2]; rfl),List.filter_cons_of_pos (by rw [h1]; rfl)];simp only [List.length_cons]; omega
    ·rw [List.filter_cons_of_neg (by rw [h2]; decide),List.filter_cons_of_pos (by rw [h1]; rfl)];simp only [List.length_cons]; omega
   ·rw [List.filter_cons_of_neg (by rw [ha h1]; decide),List.filter_cons_of_neg (by rw [h1]; decide)]; exact ih
 unfold left;obtain⟨a,b,rfl⟩:=List.append_of_mem hU;rw [List.filter_append,List.filter_append,List.length_append,List.length_append];have hx:(s++[x]).contains x=true:=by simp
 rw [List.filter_cons_of_neg (by rw [hx]; decide),List.filter_cons_of_pos (by rw [hs]; rfl)];have h1:=mono a;have h2:=mono b;simp only [List.length_cons]; omega
def inNames (d:TDef):List Bs:=d.FInputs.l.map fun x=>x.FType.FName
def docNames (d:TDoc):List Bs:=d.FDefs.l.flatMap inNames
theorem docNames_len (d:TDoc):(docNames d).length<=d.sz:=by
 have h1:=d.sz_def;have h2:Sl.sz TDef.sz d.FDefs=1+(d.FDefs.l.map TDef.sz).sum:=rfl;have:∀l:List TDef,(l.flatMap inNames).length<=(l.map TDef.sz).sum:=by
  intro l;induction l with
  | nil=>simp
  | cons a r ih =>
   have h3:=a.sz_def;have h5:=Sl.len_le (f:=Z5.sz) a.FInputs (fun x=>Z5.pos x);simp only [List.flatMap_cons,List.length_append,List.map_cons,List.sum_cons];have:(inNames a).length=a.FInputs.l.length:=by unfold inNames; rw [List.length_map]
   omega
 have:=this d.FDefs.l;unfold docNames; omega
theorem has_false:∀(l:List Bs) (x:Bs),(match Z94_q5 x l with|Sum.inl _=>false|Sum.inr e=>e)=l.contains x
 | [],_=>rfl
 | a::r,x=>by
  rw [Z94_q5,List.contains_cons];simp only [Ab.on];by_cases h:a=x
  ·subst h; simp
  ·have h2:(a==x)=false:=by simpa using h
   have h3:(x==a)=false:=by simpa using fun e=>h e.symm
   rw [h2,h3,cond_false,Bool.false_or]; exact has_false r x
theorem direct_ok (t:TRef):∃b,Z91_q t=some b:=by
 unfold Z91_q;by_cases h:t.FWraps.l.length=1
 ·rw [show decide (((t.FWraps.l.length:Nat):Int)=1)=true from dT (by omega)];simp only [guardO,if_true];rw [List.getElem?_eq_getElem (show 0<t.FWraps.l.length by omega)];exact⟨_,rfl⟩
 ·rw [show decide (((t.FWraps.l.length:Nat):Int)=1)=false from dF (by omega)];exact⟨_,rfl⟩
def Vs (U:List Bs) (M:Nat) (s:Sl Bs):Prop:=s.l.length+left U s.l<=M
theorem next_loop (d:TDoc) (c:Bs) (U:List Bs) (M:Nat) (hM:M<=2000000):∀(l:List Z5) (s:Sl Bs),(∀x∈l,x.FType.FName∈U)->Vs U M s->∃r,Z99_q6 d c l s=some r/\Vs U M r/\s.l.length<=r.l.length
 | [],s,_,h=>⟨s,rfl,h,Nat.le_refl _⟩
 | x::l,s,hx,h=>by
  have hn:=hx x (.head _);have hx':∀z∈l,z.FType.FName∈U:=fun z hz=>hx z (.tail _ hz);obtain⟨b,hb⟩:=direct_ok x.FType;rw [Z99_q6];simp only [Ab.on];rw [hb,oB];generalize (b&&((x.FType.FName==c)||((Z84_q d x.FType.FName).2&&decide ((Z84_q d x.FType.FName).1.FKind=5))))=w;have hq:Z94_q s x.FType.FName=s.l.contains x.FType.FName:=by
   rw [<- has_false]; unfold Z94_q; simp only [Ab.on];all_goals (cases Z94_q5 x.FType.FName s.l<;>rfl)
  cases w
  ·exact next_loop d c U M hM l s hx' h
  ·rw [cond_true,hq];cases hc:s.l.contains x.FType.FName
   ·unfold Vs at h;have hl:=left_add hn hc;simp only [Bool.not_false,Bool.and_self,cond_true];rw [appC_ok (by decide) (by simp; omega),oB,oB];obtain⟨r,h1,h2,h3⟩:=next_loop d c U M hM l ⟨s.nl&&([x.FType.FName]:List Bs).isEmpty,s.l++[x.FType.FName]⟩ hx' (by unfold Vs; simp only [List.length_append,List.length_cons,List.length_nil]; omega);exact⟨r,h1,h2,by simp only [List.length_append,List.length_cons,List.length_nil] at h3; omega⟩
   ·exact next_loop d c U M hM l s hx' h
theorem find_in (d:TDoc) (n:Bs):(Z84_q d n).1∈d.FDefs.l\/(Z84_q d n).1.FInputs.l=[]:=by
 unfold Z84_q;simp only [Ab.on];have:∀l:List TDef,(match Z84_q6 n l with|Sum.inl _=>True|Sum.inr e=>e.1∈l):=by
  intro l;induction l with
  | nil=>exact trivial
  | cons a r ih =>
   rw [Z84_q6];simp only [Ab.on];cases hq:a.FName==n
   ·simp only [cond_false]
    revert ih
    cases Z84_q6 n r with
    | inl u=>intro _; exact trivial
    | inr e=>intro ih; exact .tail _ ih
   ·exact .head _
 have h:=this d.FDefs.l
 revert h
 cases Z84_q6 n d.FDefs.l with
 | inl u=>intro _; exact .inr rfl
 | inr e=>intro h; exact .inl h
theorem names_in {d:TDoc}{a:TDef}(h:a∈d.FDefs.l\/a.FInputs.l=[]):∀x∈a.FInputs.l,x.FType.FName∈docNames d:=by
 intro x hx;rcases h with h|h
 ·exact List.mem_flatMap.2 ⟨a,h,List.mem_map.2 ⟨x,hx,rfl⟩⟩
 ·rw [h] at hx; cases hx
theorem circ_loop (d:TDoc) (a:TDef) (hM:(docNames d).length<=1048576):∀(n i:Nat) (s:Sl Bs),Vs (docNames d) (docNames d).length s->i<=s.l.length->(docNames d).length+1<=n+i->∃b,Z90_l13 d a n s i=some b
 | 0,i,s,h,hi,hn=>by unfold Vs at h; omega
 | n+1,i,s,h,hi,hn=>by
  rw [Z90_l13];by_cases hlt:i<s.l.length
  ·rw [show decide (((i:Nat):Int)<((s.l.length:Nat):Int))=true from dT (by omega),cond_true,List.getElem?_eq_getElem hlt,oB,Z84_eq,oB,Z99_eq];unfold Z99_q;obtain⟨r,h1,h2,h3⟩:=next_loop d a.FName (docNames d) (docNames d).length (by omega) _ s (names_in (find_in d s.l[i])) h;rw [h1,oB];simp only [Ab.on,oB];exact circ_loop d a hM n (i+1) r h2 (by omega) (by omega)
  ·rw [show decide (((i:Nat):Int)<((s.l.length:Nat):Int))=false from dF (by omega),cond_false];unfold Z90_j8;rw [Z94_eq];exact⟨_,rfl⟩
theorem circular_ok {d:TDoc}(hd:d.sz<=1048576){a:TDef}(ha:a∈d.FDefs.l):∃b,Z90 d a=some b:=by
 have hM:=docNames_len d;unfold Z90;cases hk:(!decide (a.FKind=(5:Int)))
 ·rw [cond_false,Z99_eq];unfold Z99_q;have h0:Vs (docNames d) (docNames d).length Sl.nil:=by
   unfold Vs left;have:=List.length_filter_le (fun x=>!(Sl.nil:Sl Bs).l.contains x) (docNames d);simp only [Sl.nil,List.length_nil] at this ⊢; omega
  obtain⟨r,h1,h2,h3⟩:=next_loop d a.FName (docNames d) (docNames d).length (by omega) a.FInputs.l Sl.nil (names_in (.inl ha)) h0;rw [h1,oB];simp only [Ab.on,oB];exact circ_loop d a (by omega) F0 0 r h2 (by omega) (by rw [F0_eq]; omega)
 ·exact⟨false,rfl⟩
theorem j15_tl {s:Sl Z3}{b:Nat}(h:s.l.length<=b):Tl (Z100_j15 s) b:=⟨s,rfl,h⟩
theorem j13_tl {d:TDoc}(hd:d.sz<=1048576){a:TDef}(ha:a∈d.FDefs.l){s:Sl Z3}{b:Nat}(h:s.l.length<=b) (hb:b<=1000):Tl (Z100_j13 d a s) (b+1):=by
 unfold Z100_j13;obtain⟨v,hv⟩:=circular_ok hd ha;rw [hv,oB];cases v
 ·exact(j15_tl h).mono (by omega)
 ·obtain⟨w,h1,h2⟩:=app24 (s:=s) (r:=⟨false,[Z3.mk (5:Int) a.FName]⟩) (by simp; omega);rw [cond_true,h1,oB];exact j15_tl (by rw [h2]; simp; omega)
theorem j10_tl {d:TDoc}(hd:d.sz<=1048576){a:TDef}(ha:a∈d.FDefs.l){s:Sl Z3}{b:Nat}(h:s.l.length<=b) (hb:b<=900):Tl (Z100_j10 d a s) (b+2):=by
 unfold Z100_j10;generalize (((((((a.FName==([81,117,101,114,121]:Bs)))||((a.FName==([77,117,116,97,116,105,111,110]:Bs))))||((a.FName==([83,117,98,115,99,114,105,112,116,105,111,110]:Bs))))&&(!decide (a.FKind=(1:Int))))||(decide (a.FKind<(1:Int))))||(decide ((5:Int)<a.FKind)))=w;cases w
 ·exact(j13_tl hd ha h (by omega)).mono (by omega)
 ·obtain⟨w,h1,h2⟩:=app24 (s:=s) (r:=⟨false,[Z3.mk (9:Int) a.FName]⟩) (by simp; omega);rw [cond_true,h1,oB];exact(j13_tl (b:=b+1) hd ha (by rw [h2]; simp; omega) (by omega)).mono (by omega)
theorem j6_tl {d:TDoc}(hd:d.sz<=1048576){a:TDef}(ha:a∈d.FDefs.l) (t:Bool):Tl (Z100_j6 d a t) 5:=by
 unfold Z100_j6;rw [Z98_eq];refine(names_tl _ _ _ _).bind fun r hr=>?_;rw [Z92_eq,oB];cases Z92_q a
 ·exact(j10_tl hd ha hr (by omega)).mono (by omega)
 ·obtain⟨w,h1,h2⟩:=app24 (s:=r) (r:=⟨false,[Z3.mk (8:Int) a.FName]⟩) (by simp; omega);rw [cond_true,h1,oB];exact j10_tl (b:=3) hd ha (by rw [h2]; simp; omega) (by omega)
theorem l30_tl {d:TDoc}(hd:d.sz<=1048576){a:TDef}(ha:a∈d.FDefs.l) (N:Nat) (hN:N<=d.FDefs.l.length) (hl:d.FDefs.l.length<=1048576):∀(n i:Nat) (t:Bool),i<=N->N-i<n->Tl (Z100_l30 d ((N:Nat):Int) a n t (i:Int)) 5
 | 0,_,_,_,h=>by omega
 | n+1,i,t,hi,hn=>by
  rw [Z100_l30];by_cases hlt:i<N
  ·have one:addC (i:Int) 1=some (((i+1:Nat)):Int):=by rw [addC_ok (by omega)]; rfl
   have hidx:idxC d.FDefs.l (i:Int)=some (d.FDefs.l[i]'(by omega)):=by
    unfold idxC; rw [if_pos (by omega),Int.toNat_natCast,List.getElem?_eq_getElem (show i<d.FDefs.l.length by omega)]
   rw [show decide ((i:Int)<((N:Nat):Int))=true from dT (by omega),cond_true,one,hidx];cases t
   ·exact l30_tl hd ha N hN hl n (i+1) _ (by omega) (by omega)
   ·exact l30_tl hd ha N hN hl n (i+1) _ (by omega) (by omega)
  ·rw [show decide ((i:Int)<((N:Nat):Int))=false from dF (by omega),cond_false];exact j6_tl hd ha t
theorem whole_tl {d:TDoc}(hd:d.sz<=1048576){i:Nat}(hi:i<d.FDefs.l.length):Tl (Z100_q d ((i:Nat):Int)) 5:=by
 have h1:=d.sz_def;have h2:=Sl.len_le (f:=TDef.sz) d.FDefs (fun x=>TDef.pos x);show Tl (Z100 d ((i:Nat):Int)) 5;unfold Z100;have hidx:idxC d.FDefs.l (i:Int)=some (d.FDefs.l[i]):=by
  unfold idxC; rw [if_pos (by omega),Int.toNat_natCast,List.getElem?_eq_getElem hi]
 rw [hidx,oB,Z88_eq,oB];exact l30_tl hd (List.getElem_mem hi) i (by omega) (by omega) F0 0 _ (by omega) (by rw [F0_eq]; omega)
theorem check_loop {d:TDoc}(hd:d.sz<=1048576):∀(l:List TDef) (i:Nat) (s:Sl Z3),d.FDefs.l.drop i=l->s.l.length+8*(l.map TDef.sz).sum<=900000000->Tl (Z82_q14 d l i s) (s.l.length+8*(l.map TDef.sz).sum)
 | [],i,s,_,_=>⟨s,rfl,by simp⟩
 | x::l,i,s,hl,hs=>by
  have hi:i<d.FDefs.l.length:=by
   have:=congrArg List.length hl;simp only [List.length_drop,List.length_cons] at this; omega
  have hx:x∈d.FDefs.l:=List.mem_of_mem_drop (i:=i) (by rw [hl]; exact .head _);have hd':d.FDefs.l.drop (i+1)=l:=by rw [<- List.drop_drop,hl]; rfl
  have h1:=Sl.mem_le (f:=TDef.sz) hx;have h2:=d.sz_def;have h3:=x.sz_def;have h4:=Bs.len_le x.FName;have h5:=Bs.sz_pos x.FName;have h6:=Sl.len_le (f:=Z5.sz) x.FInputs (fun x=>Z5.pos x);simp only [List.map_cons,List.sum_cons] at hs ⊢;rw [Z82_q14];simp only [Ab.on];refine Tl.appT (Nat.le_refl _) (whole_tl hd hi) (by omega) fun r hr=>?_;have rest:∀(o:Option (Sl Z3)),Tl o (s.l.length+5+3*x.sz)->Tl (o.bind fun v=>Z82_q14 d l (i+1) v) (s.l.length+8*(x.sz+(l.map TDef.sz).sum)):=by
   intro o ho;refine ho.bind fun v hv=>?_;exact(check_loop hd l (i+1) v hd' (by omega)).mono (by omega)
  have fin:∀{o:Option (Sl Z3)}{b:Nat},Tl o b->b<=3*x.sz->Tl (o.bind fun v=>(appC 24 r v).bind fun w=>some w) (s.l.length+5+3*x.sz):=by
   intro o b ho hb;exact Tl.appT hr ho (by omega) fun w hw=>⟨w,rfl,by omega⟩
  refine rest _ ?_;cases (bif decide (x.FKind=1) then decide (x.FKind=1) else decide (x.FKind=2))
  ·rw [cond_false];cases decide (x.FKind=4)
   ·rw [cond_false];cases decide (x.FKind=5)
    ·exact⟨r,rfl,by omega⟩
    ·rw [cond_true,catC_ok (by simp; omega),oB];exact fin (inputs_tl d x.FInputs _ _ (by simp; omega) (by simp) (by omega)) (by omega)
   ·exact fin (members_tl x (by omega)) (by omega)
  ·exact fin (fields_tl d x (by omega)) (by omega)
theorem check_tl {d:TDoc}(hd:d.sz<=1048576) (b:Bool):Tl (Z82_q d b) 9000000:=by
 unfold Z82_q;have h2:=d.sz_def;have h3:Sl.sz TDef.sz d.FDefs=1+(d.FDefs.l.map TDef.sz).sum:=rfl;refine Tl.bind (a:=8*(d.FDefs.l.map TDef.sz).sum) ?_ fun r hr=>?_
 ·obtain⟨r,h4,h5⟩:=check_loop hd d.FDefs.l 0 Sl.nil rfl (by simp [Sl.nil]; omega);exact⟨r,h4,by simp [Sl.nil] at h5; omega⟩
 ·simp only [Ab.on];cases (b&&(!(Z84_q d ([81,117,101,114,121]:Bs)).2))
  ·exact⟨r,rfl,by omega⟩
  ·refine(Tl.add1 hr (by omega)).bind fun v hv=>⟨v,rfl,by omega⟩
end Go.Proofs

namespace Go.Proofs
open Go Go.Ab
theorem first_loop (d:TDoc) (N:Nat) (hN:N<d.FDefs.l.length) (hl:d.FDefs.l.length<=1048576):∀(n i:Nat),i<=N->N-i<n->∃b,Z106_l5 d ((N:Nat):Int) n (i:Int)=some b
 | 0,_,_,h=>by omega
 | n+1,i,hi,hn=>by
  rw [Z106_l5];by_cases hlt:i<N
  ·have one:addC (i:Int) 1=some (((i+1:Nat)):Int):=by rw [addC_ok (by omega)]; rfl
   have h1:idxC d.FDefs.l (i:Int)=some (d.FDefs.l[i]'(by omega)):=by
    unfold idxC; rw [if_pos (by omega),Int.toNat_natCast,List.getElem?_eq_getElem (show i<d.FDefs.l.length by omega)]
   have h2:idxC d.FDefs.l ((N:Nat):Int)=some (d.FDefs.l[N]):=by
    unfold idxC; rw [if_pos (by omega),Int.toNat_natCast,List.getElem?_eq_getElem hN]
   rw [show decide ((i:Int)<((N:Nat):Int))=true from dT (by omega),cond_true,h1,h2,oB,oB,one];cases ((d.FDefs.l[i]'(by omega)).FName==(d.FDefs.l[N]).FName)
   ·exact first_loop d N hN hl n (i+1) (by omega) (by omega)
   ·exact⟨_,rfl⟩
  ·rw [show decide ((i:Int)<((N:Nat):Int))=false from dF (by omega),cond_false];exact⟨_,rfl⟩
theorem first_ok {d:TDoc}(hl:d.FDefs.l.length<=1048576){i:Nat}(hi:i<d.FDefs.l.length):∃b,Z106_q d ((i:Nat):Int)=some b:=first_loop d i hi hl F0 0 (by omega) (by rw [F0_eq]; omega)
theorem possible_loop {d:TDoc}(hd:d.FDefs.l.length<=1048576) (n:Bs) (x:TDef×Bool):∀(l:List TDef) (i:Nat) (s:Sl Bs),d.FDefs.l.drop i=l->s.l.length+l.length<=4000000->Tl (Z103_q9 d n x l i s) (s.l.length+l.length)
 | [],i,s,_,_=>⟨s,rfl,by simp⟩
 | y::l,i,s,hl,hs=>by
  have hi:i<d.FDefs.l.length:=by
   have:=congrArg List.length hl;simp only [List.length_drop,List.length_cons] at this; omega
  have hd':d.FDefs.l.drop (i+1)=l:=by rw [<- List.drop_drop,hl]; rfl
  simp only [List.length_cons] at hs ⊢;rw [Z103_q9];cases x.2
  ·exact⟨s,rfl,by omega⟩
  ·rw [cond_true];simp only [Ab.on];have same:Tl (Z103_q9 d n x l (i+1) s) (s.l.length+(l.length+1)):=(possible_loop hd n x l (i+1) s hd' (by omega)).mono (by omega);have more:Tl (Option.bind ((appC 16 s (⟨false,[y.FName]⟩:Sl Bs)).bind fun x31=>some x31) fun v=>Z103_q9 d n x l (i+1) v) (s.l.length+(l.length+1)):=by
    rw [appC_ok (by decide) (by simp; omega),oB,oB];exact(possible_loop hd n x l (i+1) _ hd' (by simp; omega)).mono (by simp; omega)
   obtain⟨b,hb⟩:=first_ok hd hi;cases hk:decide (y.FKind=1)
   ·simp only [guardO,Bool.not_false,Bool.not_true,Bool.true_or,cond_true,oB];exact same
   ·simp only [guardO,Bool.not_true,Bool.not_false,if_true,hb,oB,Bool.false_or];cases b
    ·exact same
    ·simp only [Bool.not_true,cond_false];generalize ((((decide (x.1.FKind=(1:Int)))&&((y.FName==n)))||((decide (x.1.FKind=(2:Int)))&&_))||((decide (x.1.FKind=(3:Int)))&&_))=w;cases w
     ·exact same
     ·exact more
theorem possible_ok {d:TDoc}(hd:d.FDefs.l.length<=1048576) (n:Bs):Tl (Z103_q d n) d.FDefs.l.length:=by
 unfold Z103_q;simp only [Ab.on];obtain⟨r,h1,h2⟩:=possible_loop hd n (Z84_q d n) d.FDefs.l 0 Sl.nil rfl (by simp [Sl.nil]; omega);rw [h1];exact⟨r,rfl,by simpa [Sl.nil] using h2⟩
theorem is_ok {d:TDoc}(hd:d.FDefs.l.length<=1048576) (n m:Bs):∃b,Z102_q d n m=some b:=by
 unfold Z102_q;obtain⟨r,h1,-⟩:=possible_ok hd m;rw [h1]; exact⟨_,rfl⟩
end Go.Proofs

namespace Go.Proofs
open Go Go.Ab
def Sm (x:TDef):Prop:=x.FFields.l.length<=1000/\x.FMembers.l.length<=1000/\x.FImplements.l.length<=1000/\x.FInputs.l.length<=1000/\∀f∈x.FFields.l,f.FArgs.l.length<=1000
theorem cut11 {t:TRef}(h:t.FWraps.l.length<=1048576) (h1:1<=t.FWraps.l.length):Z57_q t=some ⟨t.FName,⟨false,t.FWraps.l.drop 1⟩⟩:=by
 unfold Z57_q;rw [partC_tail h1,oB,appC_ok (by decide) (by simp; omega)];simp
theorem nullable11 {t:TRef}(h:t.FWraps.l.length<=1048576):∃u,Z54_q t=some u/\u.FWraps.l.length<=t.FWraps.l.length/\(Z53_q t=true->u.FWraps.l.length<t.FWraps.l.length):=by
 unfold Z54_q;simp only [Ab.on];cases hn:Z53_q t
 ·rw [cond_false,appC_ok (by decide) (by simp; omega)];exact⟨_,rfl,by simp,fun h=>by cases h⟩
 ·have h1:1<=t.FWraps.l.length:=by
   unfold Z53_q at hn;cases hw:t.FWraps.l with
   | nil=>rw [hw] at hn; cases hn
   | cons a r=>simp
  rw [cond_true,cut11 h h1];exact⟨_,rfl,by simp,fun _=>by simp; omega⟩
theorem inner11 {t:TRef}(h:t.FWraps.l.length<=1048576):∃u b,Z51_q t=some (u,b)/\(b=true->u.FWraps.l.length<t.FWraps.l.length):=by
 obtain⟨u,h1,h2,-⟩:=nullable11 h;unfold Z51_q Z52_q;rw [h1,oB];simp only [Ab.on,oB];cases hl:(decide ((0:Int)<((u.FWraps.l.length:Nat):Int))&&decide ((bif decide ((0:Int)<((u.FWraps.l.length:Nat):Int)) then(u.FWraps.l[0]?).getD 0 else 0)=2))
 ·exact⟨_,false,rfl,fun h=>by cases h⟩
 ·simp only [Bool.and_eq_true,decide_eq_true_eq] at hl;rw [Bool.not_true,cond_false,cut11 (by omega) (by omega),oB];exact⟨_,true,rfl,fun _=>by simp; omega⟩
theorem sub_ok {d:TDoc}(hd:d.FDefs.l.length<=1048576):∀(n:Nat) (a b:TRef),a.FWraps.l.length<n->a.FWraps.l.length<=1048576->b.FWraps.l.length<=1048576->∃v,Z104_qn n d a b=some v
 | 0,_,_,h,_,_=>by omega
 | n+1,a,b,hn,ha,hb=>by
  rw [Z104_qn];simp only [Ab.on];obtain⟨u,u1,u2,u3⟩:=nullable11 ha;obtain⟨w,w1,w2,w3⟩:=nullable11 hb;cases hbn:Z53_q b
  ·rw [cond_false];cases han:Z53_q a
   ·rw [cond_false];obtain⟨p,x,p1,p2⟩:=inner11 ha;obtain⟨q,y,q1,q2⟩:=inner11 hb;rw [p1,q1,oB,oB];obtain⟨z,hz⟩:=is_ok hd a.FName b.FName;cases x
    ·cases y
     ·simp only [Bool.false_and,cond_false,Bool.not_false,Bool.true_and,Bool.and_self];cases (a.FName==b.FName)
      ·simp only [guardO,Bool.not_false,if_true,hz,oB]; exact⟨_,rfl⟩
      ·exact⟨_,rfl⟩
     ·exact⟨_,rfl⟩
    ·cases y
     ·exact⟨_,rfl⟩
     ·have hq:=q2 rfl;have hp:=p2 rfl;obtain⟨v,hv⟩:=sub_ok hd n p q (by omega) (by omega) (by omega);simp only [Bool.and_self,cond_true,hv,oB];exact⟨_,rfl⟩
   ·rw [cond_true,u1,oB];obtain⟨v,hv⟩:=sub_ok hd n u b (by have:=u3 han; omega) (by omega) hb;rw [hv]; exact⟨_,rfl⟩
  ·rw [cond_true];cases han:Z53_q a
   ·exact⟨_,rfl⟩
   ·obtain⟨v,hv⟩:=sub_ok hd n u w (by have:=u3 han; omega) (by omega) (by omega);simp only [guardO,if_true,u1,w1,hv,oB];exact⟨_,rfl⟩
theorem same11_ok (a b:TRef):∃v,Z56_q a b=some v:=by
 have loop:∀(c:Sl Int) (l:List Int) (i:Nat),l.length+i<=c.l.length->∃o,Z58_q11 c l i=some o:=by
  intro c l;induction l with
  | nil=>intro i _; exact⟨_,rfl⟩
  | cons x r ih =>
   intro i h;simp only [List.length_cons] at h;rw [Z58_q11];simp only [Ab.on];rw [List.getElem?_eq_getElem (show i<c.l.length by omega),oB];cases (!decide (x=c.l[i]'(by omega)))
   ·exact ih (i+1) (by omega)
   ·exact⟨_,rfl⟩
 have h2:∃v,Z58_q a.FWraps b.FWraps=some v:=by
  unfold Z58_q;by_cases h:a.FWraps.l.length=b.FWraps.l.length
  ·rw [show (!decide (((a.FWraps.l.length:Nat):Int)=((b.FWraps.l.length:Nat):Int)))=false by rw [dT (show ((a.FWraps.l.length:Nat):Int)=((b.FWraps.l.length:Nat):Int) by omega)]; rfl,cond_false];obtain⟨o,ho⟩:=loop b.FWraps a.FWraps.l 0 (by omega);rw [ho];cases o<;>exact⟨_,rfl⟩
  ·rw [show (!decide (((a.FWraps.l.length:Nat):Int)=((b.FWraps.l.length:Nat):Int)))=true by rw [dF (show ¬((a.FWraps.l.length:Nat):Int)=((b.FWraps.l.length:Nat):Int) by omega)]; rfl];exact⟨_,rfl⟩
 obtain⟨v,hv⟩:=h2;unfold Z56_q;cases (a.FName==b.FName)
 ·exact⟨_,rfl⟩
 ·simp only [guardO,if_true,hv]; exact⟨_,rfl⟩
end Go.Proofs
