import Derived.Test.YtimiconoebjfbaaGreatDoorV6
set_option maxRecDepth 100000
set_option maxHeartbeats 2000000
set_option linter.unusedVariables false
set_option linter.unusedSimpArgs false
namespace Go.Proofs
open Go Go.Ab
def Z43_q30 :List TOp->Option (Unit ⊕ Bool)
 | []=>some (Sum.inl ())
 | h30::r30=>on (h30) fun x38=>on (bif (!((decide (x38.FKind<(1:Int)))||(decide ((3:Int)<x38.FKind)))&&(!(x38.FName==([]:Bs)))) then Z25_q x38.FName else false) fun x40=>guardO (!(((decide (x38.FKind<(1:Int)))||(decide ((3:Int)<x38.FKind)))||((!(x38.FName==([]:Bs)))&&(!x40)))) (Z49_q x38.FVars) false fun x41=>guardO (!((((decide (x38.FKind<(1:Int)))||(decide ((3:Int)<x38.FKind)))||((!(x38.FName==([]:Bs)))&&(!x40)))||(!x41))) (r08_selsRight_q x38.FSels (1:Int)) false fun x42=>bif (((((decide (x38.FKind<(1:Int)))||(decide ((3:Int)<x38.FKind)))||((!(x38.FName==([]:Bs)))&&(!x40)))||(!x41))||(!x42)) then(some (Sum.inr false)) else(Z43_q30  (r30) )
theorem Z43_l30_qe {a0:Z6}  (Kb30:(Unit ⊕ Bool)->Option Bool) (hend:∀(n30:Nat) (s4_31:Nat),Z43_j10 a0  =Kb30 (Sum.inl ())) (hret:∀e:Bool,some e=Kb30 (Sum.inr e)):∀(n30:Nat) (s4_31:Nat),(0<n30/\a0.FOps.l.length<s4_31+n30)->Z43_l30 a0 n30 s4_31=Option.bind (Z43_q30  (a0.FOps.l.drop s4_31) ) Kb30:=by
 intro n30;induction n30 with
 | zero=>intro s4_31 hn; exact absurd hn.1 (by omega)
 | succ n30 ih30 =>
  intro s4_31 hn;rw [Z43_l30];by_cases hlt:s4_31<a0.FOps.l.length
  ·obtain⟨h30,hh30⟩:=Qa hlt;rw [Q.drop_of hh30,Z43_q30];refine QT hlt ?_;refine Q.bindPO hh30 fun x38 hx_x38=>?_;refine Q.guardPO (Z25_eq _) fun x40 hx_x40=>?_;refine Q.guardOO (Z49_eq _) fun x41=>?_;refine Q.guardOO (r08_selsRight_eq _ _) fun x42=>?_;refine Q.condO ?_ ?_
   ·all_goals exact hret _
   all_goals exact ih30 _ ⟨by omega,by omega⟩
  rw [dL (by omega),Z43_q30];refine QF hlt ?_;exact hend n30 s4_31
def Z43_q14 :List Z3->Option (Unit ⊕ Bool)
 | []=>some (Sum.inl ())
 | h14::r14=>on (h14) fun x22=>on (Z48_q x22.FName) fun x24=>on (bif !(!x24) then Z25_q x22.FOn else false) fun x25=>guardO (!((!x24)||(!x25))) (r08_selsRight_q x22.FSels (1:Int)) false fun x26=>bif (((!x24)||(!x25))||(!x26)) then(some (Sum.inr false)) else(Z43_q14  (r14) )
theorem Z43_l14_qe {a0:Z6}  (Kb14:(Unit ⊕ Bool)->Option Bool) (hend:∀(n14:Nat) (s6_15:Nat),Z43_j11   =Kb14 (Sum.inl ())) (hret:∀e:Bool,some e=Kb14 (Sum.inr e)):∀(n14:Nat) (s6_15:Nat),(0<n14/\a0.FFrags.l.length<s6_15+n14)->Z43_l14 a0 n14 s6_15=Option.bind (Z43_q14  (a0.FFrags.l.drop s6_15) ) Kb14:=by
 intro n14;induction n14 with
 | zero=>intro s6_15 hn; exact absurd hn.1 (by omega)
 | succ n14 ih14 =>
  intro s6_15 hn;rw [Z43_l14];by_cases hlt:s6_15<a0.FFrags.l.length
  ·obtain⟨h14,hh14⟩:=Qa hlt;rw [Q.drop_of hh14,Z43_q14];refine QT hlt ?_;refine Q.bindPO hh14 fun x22 hx_x22=>?_;refine Q.bindPO (Z48_eq _) fun x24 hx_x24=>?_;refine Q.guardPO (Z25_eq _) fun x25 hx_x25=>?_;refine Q.guardOO (r08_selsRight_eq _ _) fun x26=>?_;refine Q.condO ?_ ?_
   ·all_goals exact hret _
   all_goals exact ih14 _ ⟨by omega,by omega⟩
  rw [dL (by omega),Z43_q14];refine QF hlt ?_;exact hend n14 s6_15
def Z43_q (a0:Z6):Option Bool:=(addC ((a0.FOps.l.length:Nat):Int) ((a0.FFrags.l.length:Nat):Int)).bind fun x5=>bif ((decide (x5<(1:Int)))||(decide ((64:Int)<x5))) then(some false) else(Option.bind (Z43_q30  a0.FOps.l ) fun o30=>match o30 with|Sum.inl _=>(on (()) fun _=>Option.bind (Z43_q14  a0.FFrags.l ) fun o14=>match o14 with|Sum.inl _=>(on (()) fun _=>some true)|Sum.inr e14=>(some e14))|Sum.inr e30=>(some e30))
theorem Z43_eq (a0:Z6):Z43 a0=Z43_q a0:=by
 unfold Z43 Z43_q;refine Qs ?_;refine Q.bindO rfl fun x5=>?_;refine Q.condO ?_ ?_
 ·all_goals rfl
 refine Q.wrapOO fun Kb30 hKb30=>?_;refine Z43_l30_qe  Kb30 ?_ ?_ _ _ ⟨Nat.succ_pos _,by omega⟩
 ·intro n30 s4_31;refine Qe (hKb30 _) ?_;try dsimp only
  refine Q.wrapPO fun Kj10 hKj10=>?_;have hj10:Z43_j10 a0 =Kj10 ():=by
   refine Qe (hKj10 _) ?_;unfold Z43_j10;refine Q.wrapOO fun Kb14 hKb14=>?_;refine Z43_l14_qe  Kb14 ?_ ?_ _ _ ⟨Nat.succ_pos _,by omega⟩
   ·intro n14 s6_15;refine Qe (hKb14 _) ?_;try dsimp only
    refine Q.wrapPO fun Kj11 hKj11=>?_;have hj11:Z43_j11  =Kj11 ():=by
     refine Qe (hKj11 _) ?_;unfold Z43_j11;all_goals rfl
    all_goals exact hj11
   intro e14;refine Qe (hKb14 _) ?_;try dsimp only
   all_goals rfl
  all_goals exact hj10
 intro e30;refine Qe (hKb30 _) ?_;try dsimp only
 all_goals rfl
def Z60_q (a0:Bs):Bool:=(((((a0==([73,110,116]:Bs)))||((a0==([83,116,114,105,110,103]:Bs))))||((a0==([66,111,111,108,101,97,110]:Bs))))||((a0==([73,68]:Bs))))
theorem Z60_eq (a0:Bs):Z60 a0=some (Z60_q a0):=by
 unfold Z60 Z60_q;all_goals rfl
def Z26_q (a0:Bs):Option Bool:=guardO ((decide ((2:Int)<=((a0.length:Nat):Int)))) (a0[0]?) (0:UInt8) fun x4=>guardO (((decide ((2:Int)<=((a0.length:Nat):Int)))&&(decide (((x4.toNat:Nat):Int)=(95:Int))))) (a0[1]?) (0:UInt8) fun x5=>some (((decide ((2:Int)<=((a0.length:Nat):Int)))&&(decide (((x4.toNat:Nat):Int)=(95:Int))))&&(decide (((x5.toNat:Nat):Int)=(95:Int))))
theorem Z26_eq (a0:Bs):Z26 a0=Z26_q a0:=by
 unfold Z26 Z26_q;refine Qs ?_;refine Q.guardOO rfl fun x4=>?_;refine Q.guardOO rfl fun x5=>?_;all_goals rfl
def Z61_q (a0:Bs):Option Bool:=on (Z25_q a0) fun x3=>guardO (x3) (Z26_q a0) false fun x4=>some (x3&&(!x4))
theorem Z61_eq (a0:Bs):Z61 a0=Z61_q a0:=by
 unfold Z61 Z61_q;refine Qs ?_;refine Q.bindPO (Z25_eq _) fun x3 hx_x3=>?_;refine Q.guardOO (Z26_eq _) fun x4=>?_;all_goals rfl
def Z70_q (a0:Bs) (a1:Bool) (a2:Bool) (a3:Bs):Option (Sl Z1):=guardO (!a1) (Z61_q a0) false fun x12=>Option.bind (bif (a1||(!x12)) then((appC 24 (Sl.nil:Sl Z1) (⟨false,[(Z1.mk (6:Int) a3)]⟩:Sl Z1)).bind fun x14=>some x14) else(some (Sl.nil:Sl Z1))) fun s9_4=>Option.bind (bif a2 then((appC 24 s9_4 (⟨false,[(Z1.mk (7:Int) a3)]⟩:Sl Z1)).bind fun x10=>some x10) else(some s9_4)) fun s9_6=>some s9_6
theorem Z70_eq (a0:Bs) (a1:Bool) (a2:Bool) (a3:Bs):Z70 a0 a1 a2 a3=Z70_q a0 a1 a2 a3:=by
 unfold Z70 Z70_q;refine Qs ?_;refine Q.guardOO (Z61_eq _) fun x12=>?_;refine Q.wrapOO fun Kj3 hKj3=>?_;have hj3:∀(s9_4:(Sl Z1)),Z70_j3 a2 a3 s9_4=Kj3 s9_4:=by
  intro s9_4;refine Qe (hKj3 _) ?_;unfold Z70_j3;refine Q.wrapOO fun Kj5 hKj5=>?_;have hj5:∀(s9_6:(Sl Z1)),Z70_j5  s9_6=Kj5 s9_6:=by
   intro s9_6;refine Qe (hKj5 _) ?_;unfold Z70_j5;all_goals rfl
  refine Q.condO ?_ ?_
  ·refine Q.bindO rfl fun x10=>?_;all_goals exact hj5 _
  all_goals exact hj5 _
 refine Q.condO ?_ ?_
 ·refine Q.bindO rfl fun x14=>?_;all_goals exact hj3 _
 all_goals exact hj3 _
def Z64_q (a0:TDef):Bool:=on (bif (decide (a0.FKind=(1:Int))) then((decide (a0.FKind=(1:Int)))) else((decide (a0.FKind=(2:Int))))) fun s5_6=>bif s5_6 then((decide (((a0.FFields.l.length:Nat):Int)=(0:Int)))) else(on (bif (decide (a0.FKind=(3:Int))) then((decide (a0.FKind=(3:Int)))) else((decide (a0.FKind=(4:Int))))) fun s12_11=>bif s12_11 then((decide (((a0.FMembers.l.length:Nat):Int)=(0:Int)))) else(bif (decide (a0.FKind=(5:Int))) then((decide (((a0.FInputs.l.length:Nat):Int)=(0:Int)))) else(on (()) fun _=>false)))
theorem Z64_eq (a0:TDef):Z64 a0=some (Z64_q a0):=by
 unfold Z64 Z64_q;refine Q.wrapPP fun Kj5 hKj5=>?_;have hj5:∀(s5_6:Bool),Z64_j5 a0 s5_6=Kj5 s5_6:=by
  intro s5_6;refine Qe (hKj5 _) ?_;unfold Z64_j5;refine Q.condP ?_ ?_
  ·all_goals rfl
  refine Q.wrapPP fun Kj10 hKj10=>?_;have hj10:∀(s12_11:Bool),Z64_j10 a0 s12_11=Kj10 s12_11:=by
   intro s12_11;refine Qe (hKj10 _) ?_;unfold Z64_j10;refine Q.condP ?_ ?_
   ·all_goals rfl
   refine Q.condP ?_ ?_
   ·all_goals rfl
   refine Q.wrapPP fun Kj2 hKj2=>?_;have hj2:Z64_j2  =Kj2 ():=by
    refine Qe (hKj2 _) ?_;unfold Z64_j2;all_goals rfl
   all_goals exact hj2
  refine Q.condP ?_ ?_
  ·all_goals exact hj10 _
  all_goals exact hj10 _
 refine Q.condP ?_ ?_
 ·all_goals exact hj5 _
 all_goals exact hj5 _
def Z54_q6 (a1:Bs):List TDef->Unit ⊕ ((TDef×Bool))
 | []=>Sum.inl ()
 | h6::r6=>on (h6) fun x15=>bif ((x15.FName==a1)) then(on (h6) fun x18=>Sum.inr (x18,true)) else(Z54_q6 a1 (r6) )
theorem Z54_l6_qe {a0:TDoc}{a1:Bs}  (Kb6:(Unit ⊕ ((TDef×Bool)))->Option (TDef×Bool)) (hend:∀(n6:Nat) (s6_7:Nat) (y8_l0:TDef),Z54_j2   y8_l0=Kb6 (Sum.inl ())) (hret:∀e:(TDef×Bool),some e=Kb6 (Sum.inr e)):∀(n6:Nat) (s6_7:Nat) (y8_l0:TDef),(0<n6/\a0.FDefs.l.length<s6_7+n6)->Z54_l6 a0 a1 n6 s6_7 y8_l0=Kb6 (Z54_q6 a1 (a0.FDefs.l.drop s6_7) ):=by
 intro n6;induction n6 with
 | zero=>intro s6_7 y8_l0 hn; exact absurd hn.1 (by omega)
 | succ n6 ih6 =>
  intro s6_7 y8_l0 hn;rw [Z54_l6];by_cases hlt:s6_7<a0.FDefs.l.length
  ·obtain⟨h6,hh6⟩:=Qa hlt;rw [Q.drop_of hh6,Z54_q6];refine QT hlt ?_;refine Q.bindP hh6 fun x15 hx_x15=>?_;refine Q.condP ?_ ?_
   ·refine Q.bindP hh6 fun x18 hx_x18=>?_;all_goals exact hret _
   all_goals exact ih6 _ _ ⟨by omega,by omega⟩
  rw [dL (by omega),Z54_q6];refine QF hlt ?_;exact hend n6 s6_7 y8_l0
def Z54_q (a0:TDoc) (a1:Bs):(TDef×Bool):=on (Z54_q6 a1 a0.FDefs.l ) fun o6=>match o6 with|Sum.inl _=>(on (()) fun _=>((TDef.mk (0:Int) ([]:Bs) (Sl.nil:Sl Bs) (Sl.nil:Sl TDir) (Sl.nil:Sl Z2) (Sl.nil:Sl Z5) (Sl.nil:Sl Z4)),false))|Sum.inr e6=>(e6)
theorem Z54_eq (a0:TDoc) (a1:Bs):Z54 a0 a1=some (Z54_q a0 a1):=by
 unfold Z54 Z54_q;refine Q.wrapPP fun Kb6 hKb6=>?_;refine Z54_l6_qe  Kb6 ?_ ?_ _ _ _ ⟨Nat.succ_pos _,by omega⟩
 ·intro n6 s6_7 y8_l0;refine Qe (hKb6 _) ?_;try dsimp only
  refine Q.wrapPP fun Kj2 hKj2=>?_;have hj2:∀(y3_l0:TDef),Z54_j2  y3_l0=Kj2 ():=by
   intro y3_l0;refine Qe (hKj2 _) ?_;unfold Z54_j2;all_goals rfl
  all_goals exact hj2 _
 intro e6;refine Qe (hKb6 _) ?_;try dsimp only
 all_goals rfl
def Z66_q5 (a1:Bs):List Bs->Unit ⊕ Bool
 | []=>Sum.inl ()
 | h5::r5=>on (h5) fun x13=>bif ((x13==a1)) then(Sum.inr true) else(Z66_q5 a1 (r5) )
theorem Z66_l5_qe {a0:(Sl Bs)}{a1:Bs}  (Kb5:(Unit ⊕ Bool)->Option Bool) (hend:∀(n5:Nat) (s5_6:Nat),Z66_j2   =Kb5 (Sum.inl ())) (hret:∀e:Bool,some e=Kb5 (Sum.inr e)):∀(n5:Nat) (s5_6:Nat),(0<n5/\a0.l.length<s5_6+n5)->Z66_l5 a0 a1 n5 s5_6=Kb5 (Z66_q5 a1 (a0.l.drop s5_6) ):=by
 intro n5;induction n5 with
 | zero=>intro s5_6 hn; exact absurd hn.1 (by omega)
 | succ n5 ih5 =>
  intro s5_6 hn;rw [Z66_l5];by_cases hlt:s5_6<a0.l.length
  ·obtain⟨h5,hh5⟩:=Qa hlt;rw [Q.drop_of hh5,Z66_q5];refine QT hlt ?_;refine Q.bindP hh5 fun x13 hx_x13=>?_;refine Q.condP ?_ ?_
   ·all_goals exact hret _
   all_goals exact ih5 _ ⟨by omega,by omega⟩
  rw [dL (by omega),Z66_q5];refine QF hlt ?_;exact hend n5 s5_6
def Z66_q (a0:(Sl Bs)) (a1:Bs):Bool:=on (Z66_q5 a1 a0.l ) fun o5=>match o5 with|Sum.inl _=>(on (()) fun _=>false)|Sum.inr e5=>(e5)
theorem Z66_eq (a0:(Sl Bs)) (a1:Bs):Z66 a0 a1=some (Z66_q a0 a1):=by
 unfold Z66 Z66_q;refine Q.wrapPP fun Kb5 hKb5=>?_;refine Z66_l5_qe  Kb5 ?_ ?_ _ _ ⟨Nat.succ_pos _,by omega⟩
 ·intro n5 s5_6;refine Qe (hKb5 _) ?_;try dsimp only
  refine Q.wrapPP fun Kj2 hKj2=>?_;have hj2:Z66_j2  =Kj2 ():=by
   refine Qe (hKj2 _) ?_;unfold Z66_j2;all_goals rfl
  all_goals exact hj2
 intro e5;refine Qe (hKb5 _) ?_;try dsimp only
 all_goals rfl
def Z63_q (a0:TRef):Option Bool:=guardO ((decide (((a0.FWraps.l.length:Nat):Int)=(1:Int)))) (a0.FWraps.l[0]?) (0:Int) fun x4=>some ((decide (((a0.FWraps.l.length:Nat):Int)=(1:Int)))&&(decide (x4=(1:Int))))
theorem Z63_eq (a0:TRef):Z63 a0=Z63_q a0:=by
 unfold Z63 Z63_q;refine Qs ?_;refine Q.guardOO rfl fun x4=>?_;all_goals rfl
def Z71_q6 (a0:TDoc) (a2:Bs):List Z4->(Sl Bs)->Option ((Sl Bs))
 | [],s3_7=>some s3_7
 | h6::r6,s3_7=>on (h6) fun x16=>on (Z54_q a0 x16.FType.FName) fun x18=>(Z63_q x16.FType).bind fun x20=>on (bif (x20&&(((x16.FType.FName==a2))||(x18.2&&(decide (x18.1.FKind=(5:Int)))))) then Z66_q s3_7 x16.FType.FName else false) fun x21=>Option.bind (bif ((x20&&(((x16.FType.FName==a2))||(x18.2&&(decide (x18.1.FKind=(5:Int))))))&&(!x21)) then((appC 16 s3_7 (⟨false,[x16.FType.FName]⟩:Sl Bs)).bind fun x23=>some x23) else(some s3_7)) fun s3_14=>Z71_q6 a0 a2 (r6) s3_14
theorem Z71_l6_qe {a0:TDoc}{a1:TDef}{a2:Bs}  (Kb6:((Sl Bs))->Option (Sl Bs)) (hend:∀(n6:Nat) (s3_7:(Sl Bs)) (s9_8:Nat),Z71_j2   s3_7=Kb6 s3_7):∀(n6:Nat) (s3_7:(Sl Bs)) (s9_8:Nat),(0<n6/\a1.FInputs.l.length<s9_8+n6)->Z71_l6 a0 a1 a2 n6 s3_7 s9_8=Option.bind (Z71_q6 a0 a2 (a1.FInputs.l.drop s9_8) s3_7) Kb6:=by
 intro n6;induction n6 with
 | zero=>intro s3_7 s9_8 hn; exact absurd hn.1 (by omega)
 | succ n6 ih6 =>
  intro s3_7 s9_8 hn;rw [Z71_l6];by_cases hlt:s9_8<a1.FInputs.l.length
  ·obtain⟨h6,hh6⟩:=Qa hlt;rw [Q.drop_of hh6,Z71_q6];refine QT hlt ?_;refine Q.bindPO hh6 fun x16 hx_x16=>?_;refine Q.bindPO (Z54_eq _ _) fun x18 hx_x18=>?_;refine Q.bindO (Z63_eq _) fun x20=>?_;refine Q.guardPO (Z66_eq _ _) fun x21 hx_x21=>?_;refine Q.wrapOO fun Kj13 hKj13=>?_;have hj13:∀(s3_14:(Sl Bs)),Z71_j13 s9_8 (Z71_l6 a0 a1 a2 n6) s3_14=Kj13 s3_14:=by
    intro s3_14;refine Qe (hKj13 _) ?_;unfold Z71_j13;all_goals exact ih6 _ _ ⟨by omega,by omega⟩
   refine Q.condO ?_ ?_
   ·refine Q.bindO rfl fun x23=>?_;all_goals exact hj13 _
   all_goals exact hj13 _
  rw [dL (by omega),Z71_q6];refine QF hlt ?_;exact hend n6 s3_7 s9_8
def Z71_q (a0:TDoc) (a1:TDef) (a2:Bs) (a3:(Sl Bs)):Option (Sl Bs):=Option.bind (Z71_q6 a0 a2 a1.FInputs.l a3) fun s3_7=>on (s3_7) fun s3_3=>some s3_3
theorem Z71_eq (a0:TDoc) (a1:TDef) (a2:Bs) (a3:(Sl Bs)):Z71 a0 a1 a2 a3=Z71_q a0 a1 a2 a3:=by
 unfold Z71 Z71_q;refine Qs ?_;refine Q.wrapOO fun Kb6 hKb6=>?_;refine Z71_l6_qe  Kb6 ?_ _ _ _ ⟨Nat.succ_pos _,by omega⟩;intro n6 s3_7 s9_8;refine Qe (hKb6 _) ?_;refine Q.wrapPO fun Kj2 hKj2=>?_;have hj2:∀(s3_3:(Sl Bs)),Z71_j2  s3_3=Kj2 s3_3:=by
  intro s3_3;refine Qe (hKj2 _) ?_;unfold Z71_j2;all_goals rfl
 all_goals exact hj2 _
def Z72_q (a0:TDoc) (a1:Int):Option (Sl Z1):=Z72 a0 a1
theorem Z72_eq (a0:TDoc) (a1:Int):Z72 a0 a1=Z72_q a0 a1:=rfl
def Z68_q (a0:TDoc) (a1:Bs):Bool:=on (Z54_q a0 a1) fun x3=>on (Z60_q a1) fun x5=>(x5||x3.2)
theorem Z68_eq (a0:TDoc) (a1:Bs):Z68 a0 a1=some (Z68_q a0 a1):=by
 unfold Z68 Z68_q;refine Q.bindP (Z54_eq _ _) fun x3 hx_x3=>?_;refine Q.bindP (Z60_eq _) fun x5 hx_x5=>?_;all_goals rfl
def Z55_q6 (a1:Bs):List Z4->Unit ⊕ ((Z4×Bool))
 | []=>Sum.inl ()
 | h6::r6=>on (h6) fun x15=>bif ((x15.FName==a1)) then(on (h6) fun x18=>Sum.inr (x18,true)) else(Z55_q6 a1 (r6) )
theorem Z55_l6_qe {a0:(Sl Z4)}{a1:Bs}  (Kb6:(Unit ⊕ ((Z4×Bool)))->Option (Z4×Bool)) (hend:∀(n6:Nat) (s6_7:Nat) (y8_l0:Z4),Z55_j2   y8_l0=Kb6 (Sum.inl ())) (hret:∀e:(Z4×Bool),some e=Kb6 (Sum.inr e)):∀(n6:Nat) (s6_7:Nat) (y8_l0:Z4),(0<n6/\a0.l.length<s6_7+n6)->Z55_l6 a0 a1 n6 s6_7 y8_l0=Kb6 (Z55_q6 a1 (a0.l.drop s6_7) ):=by
 intro n6;induction n6 with
 | zero=>intro s6_7 y8_l0 hn; exact absurd hn.1 (by omega)
 | succ n6 ih6 =>
  intro s6_7 y8_l0 hn;rw [Z55_l6];by_cases hlt:s6_7<a0.l.length
  ·obtain⟨h6,hh6⟩:=Qa hlt;rw [Q.drop_of hh6,Z55_q6];refine QT hlt ?_;refine Q.bindP hh6 fun x15 hx_x15=>?_;refine Q.condP ?_ ?_
   ·refine Q.bindP hh6 fun x18 hx_x18=>?_;all_goals exact hret _
   all_goals exact ih6 _ _ ⟨by omega,by omega⟩
  rw [dL (by omega),Z55_q6];refine QF hlt ?_;exact hend n6 s6_7 y8_l0
def Z55_q (a0:(Sl Z4)) (a1:Bs):(Z4×Bool):=on (Z55_q6 a1 a0.l ) fun o6=>match o6 with|Sum.inl _=>(on (()) fun _=>((Z4.mk ([]:Bs) TRef.zero false Z7.zero (Sl.nil:Sl TDir)),false))|Sum.inr e6=>(e6)
theorem Z55_eq (a0:(Sl Z4)) (a1:Bs):Z55 a0 a1=some (Z55_q a0 a1):=by
 unfold Z55 Z55_q;refine Q.wrapPP fun Kb6 hKb6=>?_;refine Z55_l6_qe  Kb6 ?_ ?_ _ _ _ ⟨Nat.succ_pos _,by omega⟩
 ·intro n6 s6_7 y8_l0;refine Qe (hKb6 _) ?_;try dsimp only
  refine Q.wrapPP fun Kj2 hKj2=>?_;have hj2:∀(y3_l0:Z4),Z55_j2  y3_l0=Kj2 ():=by
   intro y3_l0;refine Qe (hKj2 _) ?_;unfold Z55_j2;all_goals rfl
  all_goals exact hj2 _
 intro e6;refine Qe (hKb6 _) ?_;try dsimp only
 all_goals rfl
def Z58_q (a0:TDoc) (a1:Bs):Bool:=on (Z54_q a0 a1) fun x3=>on (Z60_q a1) fun x5=>(x5||(x3.2&&(decide (x3.1.FKind=(4:Int)))))
theorem Z58_eq (a0:TDoc) (a1:Bs):Z58 a0 a1=some (Z58_q a0 a1):=by
 unfold Z58 Z58_q;refine Q.bindP (Z54_eq _ _) fun x3 hx_x3=>?_;refine Q.bindP (Z60_eq _) fun x5 hx_x5=>?_;all_goals rfl
def Z56_q (a0:TDoc) (a1:Bs):Bool:=on (Z54_q a0 a1) fun x3=>on (Z58_q a0 a1) fun x5=>(x5||(x3.2&&(decide (x3.1.FKind=(5:Int)))))
theorem Z56_eq (a0:TDoc) (a1:Bs):Z56 a0 a1=some (Z56_q a0 a1):=by
 unfold Z56 Z56_q;refine Q.bindP (Z54_eq _ _) fun x3 hx_x3=>?_;refine Q.bindP (Z58_eq _ _) fun x5 hx_x5=>?_;all_goals rfl
def Z67_q7 (a0:TDoc) (a1:(Sl Z4)) (a2:Bs) (a3:Bs):List Z4->Nat->(Sl Z1)->Option ((Sl Z1))
 | [],s10_9,s9_8=>some s9_8
 | h7::r7,s10_9,s9_8=>on (h7) fun x17=>(catC a2 x17.FName).bind fun x18=>(catC x18 a3).bind fun x19=>on ((⟨a1.nl,a1.l.take s10_9⟩:Sl Z4)) fun x21=>on (h7) fun x22=>on (Z55_q x21 x22.FName) fun x23=>on (h7) fun x25=>(Z70_q x25.FName false x23.2 x19).bind fun x26=>(appC 24 s9_8 x26).bind fun x27=>on (h7) fun x29=>on (Z68_q a0 x29.FType.FName) fun x30=>Option.bind (bif (!x30) then((appC 24 x27 (⟨false,[(Z1.mk (8:Int) x19)]⟩:Sl Z1)).bind fun x32=>some x32) else(on (h7) fun x34=>on (Z56_q a0 x34.FType.FName) fun x35=>bif (!x35) then((appC 24 x27 (⟨false,[(Z1.mk (10:Int) x19)]⟩:Sl Z1)).bind fun x37=>some x37) else(some x27))) fun s9_15=>Z67_q7 a0 a1 a2 a3 (r7) (s10_9+1) s9_15
theorem Z67_l7_qe {a0:TDoc}{a1:(Sl Z4)}{a2:Bs}{a3:Bs}  (Kb7:((Sl Z1))->Option (Sl Z1)) (hend:∀(n7:Nat) (s9_8:(Sl Z1)) (s10_9:Nat),Z67_j3   s9_8=Kb7 s9_8):∀(n7:Nat) (s9_8:(Sl Z1)) (s10_9:Nat),(0<n7/\a1.l.length<s10_9+n7)->Z67_l7 a0 a1 a2 a3 n7 s9_8 s10_9=Option.bind (Z67_q7 a0 a1 a2 a3 (a1.l.drop s10_9) s10_9 s9_8) Kb7:=by
 intro n7;induction n7 with
 | zero=>intro s9_8 s10_9 hn; exact absurd hn.1 (by omega)
 | succ n7 ih7 =>
  intro s9_8 s10_9 hn;rw [Z67_l7];by_cases hlt:s10_9<a1.l.length
  ·obtain⟨h7,hh7⟩:=Qa hlt;rw [Q.drop_of hh7,Z67_q7];refine QT hlt ?_;refine Q.bindPO hh7 fun x17 hx_x17=>?_;refine Q.bindO rfl fun x18=>?_;refine Q.bindO rfl fun x19=>?_;refine Q.bindPO (Q.partC_take (by omega)) fun x21 hx_x21=>?_;refine Q.bindPO hh7 fun x22 hx_x22=>?_;refine Q.bindPO (Z55_eq _ _) fun x23 hx_x23=>?_;refine Q.bindPO hh7 fun x25 hx_x25=>?_;refine Q.bindO (Z70_eq _ _ _ _) fun x26=>?_
   refine Q.bindO rfl fun x27=>?_;refine Q.bindPO hh7 fun x29 hx_x29=>?_;refine Q.bindPO (Z68_eq _ _) fun x30 hx_x30=>?_;refine Q.wrapOO fun Kj14 hKj14=>?_;have hj14:∀(s9_15:(Sl Z1)),Z67_j14 s10_9 (Z67_l7 a0 a1 a2 a3 n7) s9_15=Kj14 s9_15:=by
    intro s9_15;refine Qe (hKj14 _) ?_;unfold Z67_j14;all_goals exact ih7 _ _ ⟨by omega,by omega⟩
   refine Q.condO ?_ ?_
   ·refine Q.bindO rfl fun x32=>?_;all_goals exact hj14 _
   refine Q.bindPO hh7 fun x34 hx_x34=>?_;refine Q.bindPO (Z56_eq _ _) fun x35 hx_x35=>?_;refine Q.condO ?_ ?_
   ·refine Q.bindO rfl fun x37=>?_;all_goals exact hj14 _
   all_goals exact hj14 _
  rw [dL (by omega),Z67_q7];refine QF hlt ?_;exact hend n7 s9_8 s10_9
def Z67_q (a0:TDoc) (a1:(Sl Z4)) (a2:Bs) (a3:Bs):Option (Sl Z1):=Option.bind (Z67_q7 a0 a1 a2 a3 a1.l 0 (Sl.nil:Sl Z1)) fun s9_8=>on (s9_8) fun s9_4=>some s9_4
theorem Z67_eq (a0:TDoc) (a1:(Sl Z4)) (a2:Bs) (a3:Bs):Z67 a0 a1 a2 a3=Z67_q a0 a1 a2 a3:=by
 unfold Z67 Z67_q;refine Qs ?_;refine Q.wrapOO fun Kb7 hKb7=>?_;refine Z67_l7_qe  Kb7 ?_ _ _ _ ⟨Nat.succ_pos _,by omega⟩;intro n7 s9_8 s10_9;refine Qe (hKb7 _) ?_;refine Q.wrapPO fun Kj3 hKj3=>?_;have hj3:∀(s9_4:(Sl Z1)),Z67_j3  s9_4=Kj3 s9_4:=by
  intro s9_4;refine Qe (hKj3 _) ?_;unfold Z67_j3;all_goals rfl
 all_goals exact hj3 _
def Z53_q6 (a1:Bs):List Z2->Unit ⊕ ((Z2×Bool))
 | []=>Sum.inl ()
 | h6::r6=>on (h6) fun x15=>bif ((x15.FName==a1)) then(on (h6) fun x18=>Sum.inr (x18,true)) else(Z53_q6 a1 (r6) )
theorem Z53_l6_qe {a0:TDef}{a1:Bs}  (Kb6:(Unit ⊕ ((Z2×Bool)))->Option (Z2×Bool)) (hend:∀(n6:Nat) (s6_7:Nat) (y8_l0:Z2),Z53_j2   y8_l0=Kb6 (Sum.inl ())) (hret:∀e:(Z2×Bool),some e=Kb6 (Sum.inr e)):∀(n6:Nat) (s6_7:Nat) (y8_l0:Z2),(0<n6/\a0.FFields.l.length<s6_7+n6)->Z53_l6 a0 a1 n6 s6_7 y8_l0=Kb6 (Z53_q6 a1 (a0.FFields.l.drop s6_7) ):=by
 intro n6;induction n6 with
 | zero=>intro s6_7 y8_l0 hn; exact absurd hn.1 (by omega)
 | succ n6 ih6 =>
  intro s6_7 y8_l0 hn;rw [Z53_l6];by_cases hlt:s6_7<a0.FFields.l.length
  ·obtain⟨h6,hh6⟩:=Qa hlt;rw [Q.drop_of hh6,Z53_q6];refine QT hlt ?_;refine Q.bindP hh6 fun x15 hx_x15=>?_;refine Q.condP ?_ ?_
   ·refine Q.bindP hh6 fun x18 hx_x18=>?_;all_goals exact hret _
   all_goals exact ih6 _ _ ⟨by omega,by omega⟩
  rw [dL (by omega),Z53_q6];refine QF hlt ?_;exact hend n6 s6_7 y8_l0
def Z53_q (a0:TDef) (a1:Bs):(Z2×Bool):=on (Z53_q6 a1 a0.FFields.l ) fun o6=>match o6 with|Sum.inl _=>(on (()) fun _=>((Z2.mk ([]:Bs) (Sl.nil:Sl Z4) TRef.zero (Sl.nil:Sl TDir)),false))|Sum.inr e6=>(e6)
theorem Z53_eq (a0:TDef) (a1:Bs):Z53 a0 a1=some (Z53_q a0 a1):=by
 unfold Z53 Z53_q;refine Q.wrapPP fun Kb6 hKb6=>?_;refine Z53_l6_qe  Kb6 ?_ ?_ _ _ _ ⟨Nat.succ_pos _,by omega⟩
 ·intro n6 s6_7 y8_l0;refine Qe (hKb6 _) ?_;try dsimp only
  refine Q.wrapPP fun Kj2 hKj2=>?_;have hj2:∀(y3_l0:Z2),Z53_j2  y3_l0=Kj2 ():=by
   intro y3_l0;refine Qe (hKj2 _) ?_;unfold Z53_j2;all_goals rfl
  all_goals exact hj2 _
 intro e6;refine Qe (hKb6 _) ?_;try dsimp only
 all_goals rfl
def Z65_q7 (a0:TDoc) (a1:TDef):List Z2->Nat->(Sl Z1)->Option ((Sl Z1))
 | [],s6_9,s5_8=>some s5_8
 | h7::r7,s6_9,s5_8=>on (h7) fun x17=>(catC a1.FName ([46]:Bs)).bind fun x19=>(catC x19 x17.FName).bind fun x20=>on ((⟨a1.FFields.nl,a1.FFields.l.take s6_9⟩:Sl Z2)) fun x22=>on (Z53_q (TDef.mk (0:Int) ([]:Bs) (Sl.nil:Sl Bs) (Sl.nil:Sl TDir) x22 (Sl.nil:Sl Z5) (Sl.nil:Sl Z4)) x17.FName) fun x23=>(Z70_q x17.FName false x23.2 x20).bind fun x25=>(appC 24 s5_8 x25).bind fun x26=>on (Z54_q a0 x17.FType.FName) fun x28=>on (Z68_q a0 x17.FType.FName) fun x35=>Option.bind (bif (!x35) then((appC 24 x26 (⟨false,[(Z1.mk (8:Int) x20)]⟩:Sl Z1)).bind fun x37=>some x37) else(on (Z60_q x17.FType.FName) fun x39=>bif (((!x39)&&x28.2)&&(decide (x28.1.FKind=(5:Int)))) then((appC 24 x26 (⟨false,[(Z1.mk (10:Int) x20)]⟩:Sl Z1)).bind fun x41=>some x41) else(some x26))) fun s5_30=>(catC x20 ([40]:Bs)).bind fun x31=>(Z67_q a0 x17.FArgs x31 ([41]:Bs)).bind fun x32=>(appC 24 s5_30 x32).bind fun x33=>on (x33) fun s5_15=>Z65_q7 a0 a1 (r7) (s6_9+1) s5_15
theorem Z65_l7_qe {a0:TDoc}{a1:TDef}  (Kb7:((Sl Z1))->Option (Sl Z1)) (hend:∀(n7:Nat) (s5_8:(Sl Z1)) (s6_9:Nat),Z65_j3   s5_8=Kb7 s5_8):∀(n7:Nat) (s5_8:(Sl Z1)) (s6_9:Nat),(0<n7/\a1.FFields.l.length<s6_9+n7)->Z65_l7 a0 a1 n7 s5_8 s6_9=Option.bind (Z65_q7 a0 a1 (a1.FFields.l.drop s6_9) s6_9 s5_8) Kb7:=by
 intro n7;induction n7 with
 | zero=>intro s5_8 s6_9 hn; exact absurd hn.1 (by omega)
 | succ n7 ih7 =>
  intro s5_8 s6_9 hn;rw [Z65_l7];by_cases hlt:s6_9<a1.FFields.l.length
  ·obtain⟨h7,hh7⟩:=Qa hlt;rw [Q.drop_of hh7,Z65_q7];refine QT hlt ?_;refine Q.bindPO hh7 fun x17 hx_x17=>?_;refine Q.bindO rfl fun x19=>?_;refine Q.bindO rfl fun x20=>?_;refine Q.bindPO (Q.partC_take (by omega)) fun x22 hx_x22=>?_;refine Q.bindPO (Z53_eq _ _) fun x23 hx_x23=>?_;refine Q.bindO (Z70_eq _ _ _ _) fun x25=>?_;refine Q.bindO rfl fun x26=>?_;refine Q.bindPO (Z54_eq _ _) fun x28 hx_x28=>?_
   refine Q.bindPO (Z68_eq _ _) fun x35 hx_x35=>?_;refine Q.wrapOO fun Kj29 hKj29=>?_;have hj29:∀(s5_30:(Sl Z1)),Z65_j29 a0 s6_9 x17 x20 (Z65_l7 a0 a1 n7) s5_30=Kj29 s5_30:=by
    intro s5_30;refine Qe (hKj29 _) ?_;unfold Z65_j29;refine Q.bindO rfl fun x31=>?_;refine Q.bindO (Z67_eq _ _ _ _) fun x32=>?_;refine Q.bindO rfl fun x33=>?_;refine Q.wrapPO fun Kj14 hKj14=>?_;have hj14:∀(s5_15:(Sl Z1)),Z65_j14 s6_9 (Z65_l7 a0 a1 n7) s5_15=Kj14 s5_15:=by
     intro s5_15;refine Qe (hKj14 _) ?_;unfold Z65_j14;all_goals exact ih7 _ _ ⟨by omega,by omega⟩
    all_goals exact hj14 _
   refine Q.condO ?_ ?_
   ·refine Q.bindO rfl fun x37=>?_;all_goals exact hj29 _
   refine Q.bindPO (Z60_eq _) fun x39 hx_x39=>?_;refine Q.condO ?_ ?_
   ·refine Q.bindO rfl fun x41=>?_;all_goals exact hj29 _
   all_goals exact hj29 _
  rw [dL (by omega),Z65_q7];refine QF hlt ?_;exact hend n7 s5_8 s6_9
def Z65_q (a0:TDoc) (a1:TDef):Option (Sl Z1):=Option.bind (Z65_q7 a0 a1 a1.FFields.l 0 (Sl.nil:Sl Z1)) fun s5_8=>on (s5_8) fun s5_4=>some s5_4
theorem Z65_eq (a0:TDoc) (a1:TDef):Z65 a0 a1=Z65_q a0 a1:=by
 unfold Z65 Z65_q;refine Qs ?_;refine Q.wrapOO fun Kb7 hKb7=>?_;refine Z65_l7_qe  Kb7 ?_ _ _ _ ⟨Nat.succ_pos _,by omega⟩;intro n7 s5_8 s6_9;refine Qe (hKb7 _) ?_;refine Q.wrapPO fun Kj3 hKj3=>?_;have hj3:∀(s5_4:(Sl Z1)),Z65_j3  s5_4=Kj3 s5_4:=by
  intro s5_4;refine Qe (hKj3 _) ?_;unfold Z65_j3;all_goals rfl
 all_goals exact hj3 _
def Z69_q26 (a0:TDef) (x17:Z5):Nat->Nat->Bool->Option (Bool)
 | 0,s7_28,s6_27=>some s6_27
 | r26+1,s7_28,s6_27=>guardO (!s6_27) (a0.FMembers.l[s7_28]?) Z5.zero fun x33=>Z69_q26 a0 x17 (r26) (s7_28+1) (s6_27||((x33.FName==x17.FName)))
theorem Z69_l26_qe {a0:TDef}{s3_8:(Sl Z1)}{s4_9:Nat}{x17:Z5}{k_next_7:(Sl Z1)->Nat->Option (Sl Z1)}  (Kb26:(Bool)->Option (Sl Z1)) (hend:∀(n26:Nat) (s6_27:Bool) (s7_28:Nat),Z69_j19 a0 s3_8 s4_9 x17 k_next_7 s6_27=Kb26 s6_27):∀(n26:Nat) (s6_27:Bool) (s7_28:Nat),(0<n26/\s4_9<s7_28+n26)->Z69_l26 a0 s3_8 s4_9 x17 k_next_7 n26 s6_27 s7_28=Option.bind (Z69_q26 a0 x17 (s4_9-s7_28) s7_28 s6_27) Kb26:=by
 intro n26;induction n26 with
 | zero=>intro s6_27 s7_28 hn; exact absurd hn.1 (by omega)
 | succ n26 ih26 =>
  intro s6_27 s7_28 hn;rw [Z69_l26];by_cases hlt:s7_28<s4_9
  ·rw [show s4_9-s7_28=(s4_9-(s7_28+1))+1 by omega,Z69_q26];refine QT hlt ?_;refine Q.guardOO rfl fun x33=>?_;all_goals exact ih26 _ _ ⟨by omega,by omega⟩
  rw [show s4_9-s7_28=0 by omega,Z69_q26];refine QF hlt ?_;exact hend n26 s6_27 s7_28
def Z69_q7 (a0:TDef):List Z5->Nat->(Sl Z1)->Option ((Sl Z1))
 | [],s4_9,s3_8=>some s3_8
 | h7::r7,s4_9,s3_8=>on (h7) fun x17=>Option.bind (Z69_q26 a0 x17 s4_9 0 false) fun s6_27=>on (s6_27) fun s6_20=>(catC a0.FName ([46]:Bs)).bind fun x21=>(catC x21 x17.FName).bind fun x22=>(Z70_q x17.FName ((((x17.FName==([116,114,117,101]:Bs)))||((x17.FName==([102,97,108,115,101]:Bs))))||((x17.FName==([110,117,108,108]:Bs)))) s6_20 x22).bind fun x23=>(appC 24 s3_8 x23).bind fun x24=>on (x24) fun s3_15=>Z69_q7 a0 (r7) (s4_9+1) s3_15
theorem Z69_l7_qe {a0:TDef}  (Kb7:((Sl Z1))->Option (Sl Z1)) (hend:∀(n7:Nat) (s3_8:(Sl Z1)) (s4_9:Nat),Z69_j3   s3_8=Kb7 s3_8):∀(n7:Nat) (s3_8:(Sl Z1)) (s4_9:Nat),(0<n7/\a0.FMembers.l.length<s4_9+n7)->Z69_l7 a0 n7 s3_8 s4_9=Option.bind (Z69_q7 a0 (a0.FMembers.l.drop s4_9) s4_9 s3_8) Kb7:=by
 intro n7;induction n7 with
 | zero=>intro s3_8 s4_9 hn; exact absurd hn.1 (by omega)
 | succ n7 ih7 =>
  intro s3_8 s4_9 hn;rw [Z69_l7];by_cases hlt:s4_9<a0.FMembers.l.length
  ·obtain⟨h7,hh7⟩:=Qa hlt;rw [Q.drop_of hh7,Z69_q7];refine QT hlt ?_;refine Q.bindPO hh7 fun x17 hx_x17=>?_;refine Q.wrapOO fun Kb26 hKb26=>?_;refine Z69_l26_qe  Kb26 ?_ _ _ _ ⟨Nat.succ_pos _,by omega⟩;intro n26 s6_27 s7_28;refine Qe (hKb26 _) ?_;refine Q.wrapPO fun Kj19 hKj19=>?_;have hj19:∀(s6_20:Bool),Z69_j19 a0 s3_8 s4_9 x17 (Z69_l7 a0 n7) s6_20=Kj19 s6_20:=by
    intro s6_20;refine Qe (hKj19 _) ?_;unfold Z69_j19;refine Q.bindO rfl fun x21=>?_;refine Q.bindO rfl fun x22=>?_;refine Q.bindO (Z70_eq _ _ _ _) fun x23=>?_;refine Q.bindO rfl fun x24=>?_;refine Q.wrapPO fun Kj14 hKj14=>?_;have hj14:∀(s3_15:(Sl Z1)),Z69_j14 s4_9 (Z69_l7 a0 n7) s3_15=Kj14 s3_15:=by
     intro s3_15;refine Qe (hKj14 _) ?_;unfold Z69_j14;all_goals exact ih7 _ _ ⟨by omega,by omega⟩
    all_goals exact hj14 _
   all_goals exact hj19 _
  rw [dL (by omega),Z69_q7];refine QF hlt ?_;exact hend n7 s3_8 s4_9
def Z69_q (a0:TDef):Option (Sl Z1):=Option.bind (Z69_q7 a0 a0.FMembers.l 0 (Sl.nil:Sl Z1)) fun s3_8=>on (s3_8) fun s3_4=>some s3_4
theorem Z69_eq (a0:TDef):Z69 a0=Z69_q a0:=by
 unfold Z69 Z69_q;refine Qs ?_;refine Q.wrapOO fun Kb7 hKb7=>?_;refine Z69_l7_qe  Kb7 ?_ _ _ _ ⟨Nat.succ_pos _,by omega⟩;intro n7 s3_8 s4_9;refine Qe (hKb7 _) ?_;refine Q.wrapPO fun Kj3 hKj3=>?_;have hj3:∀(s3_4:(Sl Z1)),Z69_j3  s3_4=Kj3 s3_4:=by
  intro s3_4;refine Qe (hKj3 _) ?_;unfold Z69_j3;all_goals rfl
 all_goals exact hj3 _
def Z50_q14 (a0:TDoc):List TDef->Nat->(Sl Z1)->Option ((Sl Z1))
 | [],s6_16,s5_15=>some s5_15
 | h14::r14,s6_16,s5_15=>on (h14) fun x24=>(Z72_q a0 ((s6_16:Nat):Int)).bind fun x26=>(appC 24 s5_15 x26).bind fun x27=>on (bif (decide (x24.FKind=(1:Int))) then((decide (x24.FKind=(1:Int)))) else((decide (x24.FKind=(2:Int))))) fun s29_30=>Option.bind (bif s29_30 then((Z65_q a0 x24).bind fun x32=>(appC 24 x27 x32).bind fun x33=>some x33) else(bif (decide (x24.FKind=(4:Int))) then((Z69_q x24).bind fun x36=>(appC 24 x27 x36).bind fun x37=>some x37) else(bif (decide (x24.FKind=(5:Int))) then((catC x24.FName ([46]:Bs)).bind fun x40=>(Z67_q a0 x24.FInputs x40 ([]:Bs)).bind fun x41=>(appC 24 x27 x41).bind fun x42=>some x42) else(some x27)))) fun s5_22=>Z50_q14 a0 (r14) (s6_16+1) s5_22
theorem Z50_l14_qe {a0:TDoc}{a1:Bool}  (Kb14:((Sl Z1))->Option (Sl Z1)) (hend:∀(n14:Nat) (s5_15:(Sl Z1)) (s6_16:Nat),Z50_j3 a0 a1  s5_15=Kb14 s5_15):∀(n14:Nat) (s5_15:(Sl Z1)) (s6_16:Nat),(0<n14/\a0.FDefs.l.length<s6_16+n14)->Z50_l14 a0 a1 n14 s5_15 s6_16=Option.bind (Z50_q14 a0 (a0.FDefs.l.drop s6_16) s6_16 s5_15) Kb14:=by
 intro n14;induction n14 with
 | zero=>intro s5_15 s6_16 hn; exact absurd hn.1 (by omega)
 | succ n14 ih14 =>
  intro s5_15 s6_16 hn;rw [Z50_l14];by_cases hlt:s6_16<a0.FDefs.l.length
  ·obtain⟨h14,hh14⟩:=Qa hlt;rw [Q.drop_of hh14,Z50_q14];refine QT hlt ?_;refine Q.bindPO hh14 fun x24 hx_x24=>?_;refine Q.bindO (Z72_eq _ _) fun x26=>?_;refine Q.bindO rfl fun x27=>?_;refine Q.wrapPO fun Kj29 hKj29=>?_;have hj29:∀(s29_30:Bool),Z50_j29 a0 s6_16 x24 x27 (Z50_l14 a0 a1 n14) s29_30=Kj29 s29_30:=by
    intro s29_30;refine Qe (hKj29 _) ?_;unfold Z50_j29;refine Q.wrapOO fun Kj21 hKj21=>?_;have hj21:∀(s5_22:(Sl Z1)),Z50_j21 s6_16 (Z50_l14 a0 a1 n14) s5_22=Kj21 s5_22:=by
     intro s5_22;refine Qe (hKj21 _) ?_;unfold Z50_j21;all_goals exact ih14 _ _ ⟨by omega,by omega⟩
    refine Q.condO ?_ ?_
    ·refine Q.bindO (Z65_eq _ _) fun x32=>?_;refine Q.bindO rfl fun x33=>?_;all_goals exact hj21 _
    refine Q.condO ?_ ?_
    ·refine Q.bindO (Z69_eq _) fun x36=>?_;refine Q.bindO rfl fun x37=>?_;all_goals exact hj21 _
    refine Q.condO ?_ ?_
    ·refine Q.bindO rfl fun x40=>?_;refine Q.bindO (Z67_eq _ _ _ _) fun x41=>?_;refine Q.bindO rfl fun x42=>?_;all_goals exact hj21 _
    all_goals exact hj21 _
   refine Q.condP ?_ ?_
   ·all_goals exact hj29 _
   all_goals exact hj29 _
  rw [dL (by omega),Z50_q14];refine QF hlt ?_;exact hend n14 s5_15 s6_16
def Z50_q (a0:TDoc) (a1:Bool):Option (Sl Z1):=Option.bind (Z50_q14 a0 a0.FDefs.l 0 (Sl.nil:Sl Z1)) fun s5_15=>on (s5_15) fun s5_4=>on (Z54_q a0 ([81,117,101,114,121]:Bs)) fun x6=>Option.bind (bif (a1&&(!x6.2)) then((appC 24 s5_4 (⟨false,[(Z1.mk (30:Int) ([81,117,101,114,121]:Bs))]⟩:Sl Z1)).bind fun x12=>some x12) else(some s5_4)) fun s5_8=>some s5_8
theorem Z50_eq (a0:TDoc) (a1:Bool):Z50 a0 a1=Z50_q a0 a1:=by
 unfold Z50 Z50_q;refine Qs ?_;refine Q.wrapOO fun Kb14 hKb14=>?_;refine Z50_l14_qe  Kb14 ?_ _ _ _ ⟨Nat.succ_pos _,by omega⟩;intro n14 s5_15 s6_16;refine Qe (hKb14 _) ?_;refine Q.wrapPO fun Kj3 hKj3=>?_;have hj3:∀(s5_4:(Sl Z1)),Z50_j3 a0 a1 s5_4=Kj3 s5_4:=by
  intro s5_4;refine Qe (hKj3 _) ?_;unfold Z50_j3;refine Q.bindPO (Z54_eq _ _) fun x6 hx_x6=>?_;refine Q.wrapOO fun Kj7 hKj7=>?_;have hj7:∀(s5_8:(Sl Z1)),Z50_j7  s5_8=Kj7 s5_8:=by
   intro s5_8;refine Qe (hKj7 _) ?_;unfold Z50_j7;all_goals rfl
  refine Q.condO ?_ ?_
  ·refine Q.bindO rfl fun x12=>?_;all_goals exact hj7 _
  all_goals exact hj7 _
 all_goals exact hj3 _
def Z81_q (a0:TDoc) (a1:Bs) (a2:Int):Int:=on (Z54_q a0 a1) fun x3=>on (bif (!x3.2) then Z60_q a1 else false) fun x6=>bif ((!x3.2)&&(!x6)) then((8:Int)) else(bif (!decide (x3.1.FKind=a2)) then((9:Int)) else((0:Int)))
theorem Z81_eq (a0:TDoc) (a1:Bs) (a2:Int):Z81 a0 a1 a2=some (Z81_q a0 a1 a2):=by
 unfold Z81 Z81_q;refine Q.bindP (Z54_eq _ _) fun x3 hx_x3=>?_;refine Q.guardP (Z60_eq _) fun x6 hx_x6=>?_;refine Q.condP ?_ ?_
 ·all_goals rfl
 refine Q.condP ?_ ?_
 ·all_goals rfl
 all_goals rfl
def Z80_q5 (a1:Bs):List Bs->Unit ⊕ Bool
 | []=>Sum.inl ()
 | h5::r5=>on (h5) fun x13=>bif ((x13==a1)) then(Sum.inr true) else(Z80_q5 a1 (r5) )
theorem Z80_l5_qe {a0:(Sl Bs)}{a1:Bs}  (Kb5:(Unit ⊕ Bool)->Option Bool) (hend:∀(n5:Nat) (s5_6:Nat),Z80_j2   =Kb5 (Sum.inl ())) (hret:∀e:Bool,some e=Kb5 (Sum.inr e)):∀(n5:Nat) (s5_6:Nat),(0<n5/\a0.l.length<s5_6+n5)->Z80_l5 a0 a1 n5 s5_6=Kb5 (Z80_q5 a1 (a0.l.drop s5_6) ):=by
 intro n5;induction n5 with
 | zero=>intro s5_6 hn; exact absurd hn.1 (by omega)
 | succ n5 ih5 =>
  intro s5_6 hn;rw [Z80_l5];by_cases hlt:s5_6<a0.l.length
  ·obtain⟨h5,hh5⟩:=Qa hlt;rw [Q.drop_of hh5,Z80_q5];refine QT hlt ?_;refine Q.bindP hh5 fun x13 hx_x13=>?_;refine Q.condP ?_ ?_
   ·all_goals exact hret _
   all_goals exact ih5 _ ⟨by omega,by omega⟩
  rw [dL (by omega),Z80_q5];refine QF hlt ?_;exact hend n5 s5_6
def Z80_q (a0:(Sl Bs)) (a1:Bs):Bool:=on (Z80_q5 a1 a0.l ) fun o5=>match o5 with|Sum.inl _=>(on (()) fun _=>false)|Sum.inr e5=>(e5)
theorem Z80_eq (a0:(Sl Bs)) (a1:Bs):Z80 a0 a1=some (Z80_q a0 a1):=by
 unfold Z80 Z80_q;refine Q.wrapPP fun Kb5 hKb5=>?_;refine Z80_l5_qe  Kb5 ?_ ?_ _ _ ⟨Nat.succ_pos _,by omega⟩
 ·intro n5 s5_6;refine Qe (hKb5 _) ?_;try dsimp only
  refine Q.wrapPP fun Kj2 hKj2=>?_;have hj2:Z80_j2  =Kj2 ():=by
   refine Qe (hKj2 _) ?_;unfold Z80_j2;all_goals rfl
  all_goals exact hj2
 intro e5;refine Qe (hKb5 _) ?_;try dsimp only
 all_goals rfl
def Z37_q (a0:TRef):Bool:=on (bif (decide ((0:Int)<((a0.FWraps.l.length:Nat):Int))) then((a0.FWraps.l)[0]?.getD (0:Int)) else(0:Int)) fun x4=>((decide ((0:Int)<((a0.FWraps.l.length:Nat):Int)))&&(decide (x4=(1:Int))))
theorem Z37_eq (a0:TRef):Z37 a0=some (Z37_q a0):=by
 unfold Z37 Z37_q;refine Q.guardT (fun hc=>Q.getD_some (by simp at hc; omega)) fun x4 hx_x4=>?_;all_goals rfl
def Z41_q (a0:TRef):Option TRef:=(partC a0.FWraps (some (1:Int)) none).bind fun x3=>(appC 8 (⟨false,[]⟩:Sl Int) x3).bind fun x4=>some (TRef.mk a0.FName x4)
theorem Z41_eq (a0:TRef):Z41 a0=Z41_q a0:=by
 unfold Z41 Z41_q;refine Qs ?_;refine Q.bindO rfl fun x3=>?_;refine Q.bindO rfl fun x4=>?_;all_goals rfl
def Z38_q (a0:TRef):Option TRef:=on (Z37_q a0) fun x4=>bif x4 then((Z41_q a0).bind fun x7=>some x7) else((appC 8 (⟨false,[]⟩:Sl Int) a0.FWraps).bind fun x9=>some (TRef.mk a0.FName x9))
theorem Z38_eq (a0:TRef):Z38 a0=Z38_q a0:=by
 unfold Z38 Z38_q;refine Qs ?_;refine Q.bindPO (Z37_eq _) fun x4 hx_x4=>?_;refine Q.condO ?_ ?_
 ·refine Q.bindO (Z41_eq _) fun x7=>?_;all_goals rfl
 refine Q.bindO rfl fun x9=>?_;all_goals rfl
def Z36_q (a0:TRef):Option Bool:=(Z38_q a0).bind fun x3=>on (bif (decide ((0:Int)<((x3.FWraps.l.length:Nat):Int))) then((x3.FWraps.l)[0]?.getD (0:Int)) else(0:Int)) fun x6=>some ((decide ((0:Int)<((x3.FWraps.l.length:Nat):Int)))&&(decide (x6=(2:Int))))
theorem Z36_eq (a0:TRef):Z36 a0=Z36_q a0:=by
 unfold Z36 Z36_q;refine Qs ?_;refine Q.bindO (Z38_eq _) fun x3=>?_;refine Q.guardTO (fun hc=>Q.getD_some (by simp at hc; omega)) fun x6 hx_x6=>?_;all_goals rfl
def Z35_q (a0:TRef):Option (TRef×Bool):=(Z36_q a0).bind fun x4=>bif (!x4) then(some ((TRef.mk ([]:Bs) (Sl.nil:Sl Int)),false)) else((Z38_q a0).bind fun x8=>(Z41_q x8).bind fun x9=>some (x9,true))
theorem Z35_eq (a0:TRef):Z35 a0=Z35_q a0:=by
 unfold Z35 Z35_q;refine Qs ?_;refine Q.bindO (Z36_eq _) fun x4=>?_;refine Q.condO ?_ ?_
 ·all_goals rfl
 refine Q.bindO (Z38_eq _) fun x8=>?_;refine Q.bindO (Z41_eq _) fun x9=>?_;all_goals rfl
def Z82_q5 (a1:Bs):List Z5->Unit ⊕ Bool
 | []=>Sum.inl ()
 | h5::r5=>on (h5) fun x13=>bif ((x13.FName==a1)) then(Sum.inr true) else(Z82_q5 a1 (r5) )
theorem Z82_l5_qe {a0:TDef}{a1:Bs}  (Kb5:(Unit ⊕ Bool)->Option Bool) (hend:∀(n5:Nat) (s5_6:Nat),Z82_j2   =Kb5 (Sum.inl ())) (hret:∀e:Bool,some e=Kb5 (Sum.inr e)):∀(n5:Nat) (s5_6:Nat),(0<n5/\a0.FMembers.l.length<s5_6+n5)->Z82_l5 a0 a1 n5 s5_6=Kb5 (Z82_q5 a1 (a0.FMembers.l.drop s5_6) ):=by
 intro n5;induction n5 with
 | zero=>intro s5_6 hn; exact absurd hn.1 (by omega)
 | succ n5 ih5 =>
  intro s5_6 hn;rw [Z82_l5];by_cases hlt:s5_6<a0.FMembers.l.length
  ·obtain⟨h5,hh5⟩:=Qa hlt;rw [Q.drop_of hh5,Z82_q5];refine QT hlt ?_;refine Q.bindP hh5 fun x13 hx_x13=>?_;refine Q.condP ?_ ?_
   ·all_goals exact hret _
   all_goals exact ih5 _ ⟨by omega,by omega⟩
  rw [dL (by omega),Z82_q5];refine QF hlt ?_;exact hend n5 s5_6
def Z82_q (a0:TDef) (a1:Bs):Bool:=on (Z82_q5 a1 a0.FMembers.l ) fun o5=>match o5 with|Sum.inl _=>(on (()) fun _=>false)|Sum.inr e5=>(e5)
theorem Z82_eq (a0:TDef) (a1:Bs):Z82 a0 a1=some (Z82_q a0 a1):=by
 unfold Z82 Z82_q;refine Q.wrapPP fun Kb5 hKb5=>?_;refine Z82_l5_qe  Kb5 ?_ ?_ _ _ ⟨Nat.succ_pos _,by omega⟩
 ·intro n5 s5_6;refine Qe (hKb5 _) ?_;try dsimp only
  refine Q.wrapPP fun Kj2 hKj2=>?_;have hj2:Z82_j2  =Kj2 ():=by
   refine Qe (hKj2 _) ?_;unfold Z82_j2;all_goals rfl
  all_goals exact hj2
 intro e5;refine Qe (hKb5 _) ?_;try dsimp only
 all_goals rfl
def Z79_q (a0:TDoc) (a1:Int):Option Bool:=Z79 a0 a1
theorem Z79_eq (a0:TDoc) (a1:Int):Z79 a0 a1=Z79_q a0 a1:=rfl
def Z76_q9 (a0:TDoc) (a1:Bs) (x4:(TDef×Bool)):List TDef->Nat->(Sl Bs)->Option ((Sl Bs))
 | [],s8_11,s5_10=>some s5_10
 | h9::r9,s8_11,s5_10=>bif x4.2 then(on (h9) fun x19=>guardO (!(!decide (x19.FKind=(1:Int)))) (Z79_q a0 ((s8_11:Nat):Int)) false fun x22=>Option.bind (bif ((!decide (x19.FKind=(1:Int)))||(!x22)) then(some s5_10) else(on (bif (!((decide (x4.1.FKind=(1:Int)))&&((x19.FName==a1)))&&(decide (x4.1.FKind=(2:Int)))) then Z80_q x19.FImplements a1 else false) fun x26=>on (bif (!(((decide (x4.1.FKind=(1:Int)))&&((x19.FName==a1)))||((decide (x4.1.FKind=(2:Int)))&&x26))&&(decide (x4.1.FKind=(3:Int)))) then Z82_q x4.1 x19.FName else false) fun x28=>bif ((((decide (x4.1.FKind=(1:Int)))&&((x19.FName==a1)))||((decide (x4.1.FKind=(2:Int)))&&x26))||((decide (x4.1.FKind=(3:Int)))&&x28)) then((appC 16 s5_10 (⟨false,[x19.FName]⟩:Sl Bs)).bind fun x31=>some x31) else(some s5_10))) fun s5_17=>Z76_q9 a0 a1 x4 (r9) (s8_11+1) s5_17) else(some s5_10)
theorem Z76_l9_qe {a0:TDoc}{a1:Bs}{x4:(TDef×Bool)}  (Kb9:((Sl Bs))->Option (Sl Bs)) (hend:∀(n9:Nat) (s5_10:(Sl Bs)) (s8_11:Nat),Z76_j5   s5_10=Kb9 s5_10):∀(n9:Nat) (s5_10:(Sl Bs)) (s8_11:Nat),(0<n9/\a0.FDefs.l.length<s8_11+n9)->Z76_l9 a0 a1 x4 n9 s5_10 s8_11=Option.bind (Z76_q9 a0 a1 x4 (a0.FDefs.l.drop s8_11) s8_11 s5_10) Kb9:=by
 intro n9;induction n9 with
 | zero=>intro s5_10 s8_11 hn; exact absurd hn.1 (by omega)
 | succ n9 ih9 =>
  intro s5_10 s8_11 hn;rw [Z76_l9];by_cases hlt:s8_11<a0.FDefs.l.length
  ·obtain⟨h9,hh9⟩:=Qa hlt;rw [Q.drop_of hh9,Z76_q9];refine Q.condAT (Q.ltT hlt) ?_;refine Q.condO ?_ ?_
   ·refine Q.bindPO hh9 fun x19 hx_x19=>?_;refine Q.guardOO (Z79_eq _ _) fun x22=>?_;refine Q.wrapOO fun Kj16 hKj16=>?_;have hj16:∀(s5_17:(Sl Bs)),Z76_j16 s8_11 (Z76_l9 a0 a1 x4 n9) s5_17=Kj16 s5_17:=by
     intro s5_17;refine Qe (hKj16 _) ?_;unfold Z76_j16;all_goals exact ih9 _ _ ⟨by omega,by omega⟩
    refine Q.condO ?_ ?_
    ·all_goals exact hj16 _
    refine Q.guardPO (Z80_eq _ _) fun x26 hx_x26=>?_;refine Q.guardPO (Z82_eq _ _) fun x28 hx_x28=>?_;refine Q.condO ?_ ?_
    ·refine Q.bindO rfl fun x31=>?_;all_goals exact hj16 _
    all_goals exact hj16 _
   all_goals exact hend n9 s5_10 s8_11
  rw [dL (by omega),Z76_q9];refine Q.condAF (Q.ltF hlt) ?_;exact hend n9 s5_10 s8_11
def Z76_q (a0:TDoc) (a1:Bs):Option (Sl Bs):=on (Z54_q a0 a1) fun x4=>Option.bind (Z76_q9 a0 a1 x4 a0.FDefs.l 0 (Sl.nil:Sl Bs)) fun s5_10=>on (s5_10) fun s5_6=>some s5_6
theorem Z76_eq (a0:TDoc) (a1:Bs):Z76 a0 a1=Z76_q a0 a1:=by
 unfold Z76 Z76_q;refine Qs ?_;refine Q.bindPO (Z54_eq _ _) fun x4 hx_x4=>?_;refine Q.wrapOO fun Kb9 hKb9=>?_;refine Z76_l9_qe  Kb9 ?_ _ _ _ ⟨Nat.succ_pos _,by omega⟩;intro n9 s5_10 s8_11;refine Qe (hKb9 _) ?_;refine Q.wrapPO fun Kj5 hKj5=>?_;have hj5:∀(s5_6:(Sl Bs)),Z76_j5  s5_6=Kj5 s5_6:=by
  intro s5_6;refine Qe (hKj5 _) ?_;unfold Z76_j5;all_goals rfl
 all_goals exact hj5 _
def Z74_q (a0:TDoc) (a1:Bs) (a2:Bs):Option Bool:=(Z76_q a0 a2).bind fun x3=>on (Z80_q x3 a1) fun x4=>some x4
theorem Z74_eq (a0:TDoc) (a1:Bs) (a2:Bs):Z74 a0 a1 a2=Z74_q a0 a1 a2:=by
 unfold Z74 Z74_q;refine Qs ?_;refine Q.bindO (Z76_eq _ _) fun x3=>?_;refine Q.bindPO (Z80_eq _ _) fun x4 hx_x4=>?_;all_goals rfl
def Z77_qn:Nat->TDoc->TRef->TRef->Option Bool
 | 0,_,_,_=>none
 | n+1,a0,a1,a2=>on (Z37_q a2) fun x4=>bif x4 then(on (Z37_q a1) fun x7=>guardO (x7) (Z38_q a1) TRef.zero fun x8=>guardO (x7) (Z38_q a2) TRef.zero fun x9=>guardO (x7) ((Z77_qn n) a0 x8 x9) false fun x10=>some (x7&&x10)) else(on (Z37_q a1) fun x13=>bif x13 then((Z38_q a1).bind fun x16=>((Z77_qn n) a0 x16 a2).bind fun x17=>some x17) else((Z35_q a1).bind fun x19=>(Z35_q a2).bind fun x21=>bif (x19.2&&x21.2) then(((Z77_qn n) a0 x19.1 x21.1).bind fun x26=>some x26) else(guardO ((((!x19.2)&&(!x21.2))&&!((a1.FName==a2.FName)))) (Z74_q a0 a1.FName a2.FName) false fun x28=>some (((!x19.2)&&(!x21.2))&&(((a1.FName==a2.FName))||x28)))))
theorem Z77_qall:∀n:Nat,Z77_n n=Z77_qn n:=by
 intro n;induction n with
 | zero=>exact(by funext a0 a1 a2; first|rfl|(rw [Z77_n,Z77_qn]))
 | succ n ih =>
  funext a0 a1 a2
  refine Qs ?_;rw [Z77_n,Z77_qn];try rw [ih]
  refine Q.bindPO (Z37_eq _) fun x4 hx_x4=>?_;refine Q.condO ?_ ?_
  ·refine Q.bindPO (Z37_eq _) fun x7 hx_x7=>?_;refine Q.guardOO (Z38_eq _) fun x8=>?_;refine Q.guardOO (Z38_eq _) fun x9=>?_;refine Q.guardOO rfl fun x10=>?_;all_goals rfl
  refine Q.bindPO (Z37_eq _) fun x13 hx_x13=>?_;refine Q.condO ?_ ?_
  ·refine Q.bindO (Z38_eq _) fun x16=>?_;refine Q.bindO rfl fun x17=>?_;all_goals rfl
  refine Q.bindO (Z35_eq _) fun x19=>?_;refine Q.bindO (Z35_eq _) fun x21=>?_;refine Q.condO ?_ ?_
  ·refine Q.bindO rfl fun x26=>?_;all_goals rfl
  refine Q.guardOO (Z74_eq _ _ _) fun x28=>?_;all_goals rfl
def Z77_q (a0:TDoc) (a1:TRef) (a2:TRef):Option Bool:=Z77_qn F0 a0 a1 a2
theorem Z77_eq (a0:TDoc) (a1:TRef) (a2:TRef):Z77 a0 a1 a2=Z77_q a0 a1 a2:=by
 unfold Z77 Z77_q; rw [(Z77_qall F0)]
def Z42_q11 (a1:(Sl Int)):List Int->Nat->Option (Unit ⊕ Bool)
 | [],s5_12=>some (Sum.inl ())
 | h11::r11,s5_12=>on (h11) fun x19=>(a1.l[s5_12]?).bind fun x20=>bif (!decide (x19=x20)) then(some (Sum.inr false)) else(Z42_q11 a1 (r11) (s5_12+1) )
theorem Z42_l11_qe {a0:(Sl Int)}{a1:(Sl Int)}  (Kb11:(Unit ⊕ Bool)->Option Bool) (hend:∀(n11:Nat) (s5_12:Nat),Z42_j8   =Kb11 (Sum.inl ())) (hret:∀e:Bool,some e=Kb11 (Sum.inr e)):∀(n11:Nat) (s5_12:Nat),(0<n11/\a0.l.length<s5_12+n11)->Z42_l11 a0 a1 n11 s5_12=Option.bind (Z42_q11 a1 (a0.l.drop s5_12) s5_12 ) Kb11:=by
 intro n11;induction n11 with
 | zero=>intro s5_12 hn; exact absurd hn.1 (by omega)
 | succ n11 ih11 =>
  intro s5_12 hn;rw [Z42_l11];by_cases hlt:s5_12<a0.l.length
  ·obtain⟨h11,hh11⟩:=Qa hlt;rw [Q.drop_of hh11,Z42_q11];refine QT hlt ?_;refine Q.bindPO hh11 fun x19 hx_x19=>?_;refine Q.bindO rfl fun x20=>?_;refine Q.condO ?_ ?_
   ·all_goals exact hret _
   all_goals exact ih11 _ ⟨by omega,by omega⟩
  rw [dL (by omega),Z42_q11];refine QF hlt ?_;exact hend n11 s5_12
def Z42_q (a0:(Sl Int)) (a1:(Sl Int)):Option Bool:=bif (!decide (((a0.l.length:Nat):Int)=((a1.l.length:Nat):Int))) then(some false) else(Option.bind (Z42_q11 a1 a0.l 0 ) fun o11=>match o11 with|Sum.inl _=>(on (()) fun _=>some true)|Sum.inr e11=>(some e11))
theorem Z42_eq (a0:(Sl Int)) (a1:(Sl Int)):Z42 a0 a1=Z42_q a0 a1:=by
 unfold Z42 Z42_q;refine Qs ?_;refine Q.condO ?_ ?_
 ·all_goals rfl
 refine Q.wrapOO fun Kb11 hKb11=>?_;refine Z42_l11_qe  Kb11 ?_ ?_ _ _ ⟨Nat.succ_pos _,by omega⟩
 ·intro n11 s5_12;refine Qe (hKb11 _) ?_;try dsimp only
  refine Q.wrapPO fun Kj8 hKj8=>?_;have hj8:Z42_j8  =Kj8 ():=by
   refine Qe (hKj8 _) ?_;unfold Z42_j8;all_goals rfl
  all_goals exact hj8
 intro e11;refine Qe (hKb11 _) ?_;try dsimp only
 all_goals rfl
def Z40_q (a0:TRef) (a1:TRef):Option Bool:=guardO (((a0.FName==a1.FName))) (Z42_q a0.FWraps a1.FWraps) false fun x3=>some (((a0.FName==a1.FName))&&x3)
theorem Z40_eq (a0:TRef) (a1:TRef):Z40 a0 a1=Z40_q a0 a1:=by
 unfold Z40 Z40_q;refine Qs ?_;refine Q.guardOO (Z42_eq _ _) fun x3=>?_;all_goals rfl
end Go.Proofs

namespace Go.Proofs
open Go Go.Ab
def Z78_q43 (x4:Bs) (x6:(Z2×Bool)):List Z4->(Sl Z1)->Option ((Sl Z1))
 | [],s10_44=>some s10_44
 | h43::r43,s10_44=>on (h43) fun x53=>on (Z55_q x6.1.FArgs x53.FName) fun x54=>on (bif !(!x54.2) then h43 else Z4.zero) fun x56=>guardO (!(!x54.2)) (Z40_q x54.1.FType x56.FType) false fun x57=>Option.bind (bif ((!x54.2)||(!x57)) then((catC x4 ([40]:Bs)).bind fun x59=>on (h43) fun x60=>(catC x59 x60.FName).bind fun x61=>(catC x61 ([41]:Bs)).bind fun x62=>(appC 24 s10_44 (⟨false,[(Z1.mk (22:Int) x62)]⟩:Sl Z1)).bind fun x63=>some x63) else(some s10_44)) fun s10_51=>Z78_q43 x4 x6 (r43) s10_51
theorem Z78_l43_qe {a2:Z2}{x4:Bs}{x6:(Z2×Bool)}  (Kb43:((Sl Z1))->Option (Sl Z1)) (hend:∀(n43:Nat) (s10_44:(Sl Z1)) (s11_45:Nat),Z78_j14 a2 x4 x6  s10_44=Kb43 s10_44):∀(n43:Nat) (s10_44:(Sl Z1)) (s11_45:Nat),(0<n43/\a2.FArgs.l.length<s11_45+n43)->Z78_l43 a2 x4 x6 n43 s10_44 s11_45=Option.bind (Z78_q43 x4 x6 (a2.FArgs.l.drop s11_45) s10_44) Kb43:=by
 intro n43;induction n43 with
 | zero=>intro s10_44 s11_45 hn; exact absurd hn.1 (by omega)
 | succ n43 ih43 =>
  intro s10_44 s11_45 hn;rw [Z78_l43];by_cases hlt:s11_45<a2.FArgs.l.length
  ·obtain⟨h43,hh43⟩:=Qa hlt;rw [Q.drop_of hh43,Z78_q43];refine QT hlt ?_;refine Q.bindPO hh43 fun x53 hx_x53=>?_;refine Q.bindPO (Z55_eq _ _) fun x54 hx_x54=>?_;refine Q.guardPO hh43 fun x56 hx_x56=>?_;refine Q.guardOO (Z40_eq _ _) fun x57=>?_;refine Q.wrapOO fun Kj50 hKj50=>?_;have hj50:∀(s10_51:(Sl Z1)),Z78_j50 s11_45 (Z78_l43 a2 x4 x6 n43) s10_51=Kj50 s10_51:=by
    intro s10_51;refine Qe (hKj50 _) ?_;unfold Z78_j50;all_goals exact ih43 _ _ ⟨by omega,by omega⟩
   refine Q.condO ?_ ?_
   ·refine Q.bindO rfl fun x59=>?_;refine Q.bindPO hh43 fun x60 hx_x60=>?_;refine Q.bindO rfl fun x61=>?_;refine Q.bindO rfl fun x62=>?_;refine Q.bindO rfl fun x63=>?_;all_goals exact hj50 _
   all_goals exact hj50 _
  rw [dL (by omega),Z78_q43];refine QF hlt ?_;exact hend n43 s10_44 s11_45
def Z78_q20 (a2:Z2) (x4:Bs):List Z4->(Sl Z1)->Option ((Sl Z1))
 | [],s10_21=>some s10_21
 | h20::r20,s10_21=>on (h20) fun x30=>on (Z55_q a2.FArgs x30.FName) fun x31=>on (bif (!x31.2) then h20 else Z4.zero) fun x33=>on (bif (!x31.2) then Z37_q x33.FType else false) fun x34=>on (bif ((!x31.2)&&x34) then h20 else Z4.zero) fun x35=>Option.bind (bif (((!x31.2)&&x34)&&(!x35.FHas)) then((catC x4 ([40]:Bs)).bind fun x37=>on (h20) fun x38=>(catC x37 x38.FName).bind fun x39=>(catC x39 ([41]:Bs)).bind fun x40=>(appC 24 s10_21 (⟨false,[(Z1.mk (22:Int) x40)]⟩:Sl Z1)).bind fun x41=>some x41) else(some s10_21)) fun s10_28=>Z78_q20 a2 x4 (r20) s10_28
theorem Z78_l20_qe {a2:Z2}{x4:Bs}{x6:(Z2×Bool)}  (Kb20:((Sl Z1))->Option (Sl Z1)) (hend:∀(n20:Nat) (s10_21:(Sl Z1)) (s14_22:Nat),Z78_j16   s10_21=Kb20 s10_21):∀(n20:Nat) (s10_21:(Sl Z1)) (s14_22:Nat),(0<n20/\x6.1.FArgs.l.length<s14_22+n20)->Z78_l20 a2 x4 x6 n20 s10_21 s14_22=Option.bind (Z78_q20 a2 x4 (x6.1.FArgs.l.drop s14_22) s10_21) Kb20:=by
 intro n20;induction n20 with
 | zero=>intro s10_21 s14_22 hn; exact absurd hn.1 (by omega)
 | succ n20 ih20 =>
  intro s10_21 s14_22 hn;rw [Z78_l20];by_cases hlt:s14_22<x6.1.FArgs.l.length
  ·obtain⟨h20,hh20⟩:=Qa hlt;rw [Q.drop_of hh20,Z78_q20];refine QT hlt ?_;refine Q.bindPO hh20 fun x30 hx_x30=>?_;refine Q.bindPO (Z55_eq _ _) fun x31 hx_x31=>?_;refine Q.guardPO hh20 fun x33 hx_x33=>?_;refine Q.guardPO (Z37_eq _) fun x34 hx_x34=>?_;refine Q.guardPO hh20 fun x35 hx_x35=>?_;refine Q.wrapOO fun Kj27 hKj27=>?_;have hj27:∀(s10_28:(Sl Z1)),Z78_j27 s14_22 (Z78_l20 a2 x4 x6 n20) s10_28=Kj27 s10_28:=by
    intro s10_28;refine Qe (hKj27 _) ?_;unfold Z78_j27;all_goals exact ih20 _ _ ⟨by omega,by omega⟩
   refine Q.condO ?_ ?_
   ·refine Q.bindO rfl fun x37=>?_;refine Q.bindPO hh20 fun x38 hx_x38=>?_;refine Q.bindO rfl fun x39=>?_;refine Q.bindO rfl fun x40=>?_;refine Q.bindO rfl fun x41=>?_;all_goals exact hj27 _
   all_goals exact hj27 _
  rw [dL (by omega),Z78_q20];refine QF hlt ?_;exact hend n20 s10_21 s14_22
def Z78_q (a0:TDoc) (a1:TDef) (a2:Z2):Option (Sl Z1):=(catC a1.FName ([46]:Bs)).bind fun x3=>(catC x3 a2.FName).bind fun x4=>on (Z53_q a1 a2.FName) fun x6=>bif (!x6.2) then(some (⟨false,[(Z1.mk (20:Int) x4)]⟩:Sl Z1)) else((Z77_q a0 x6.1.FType a2.FType).bind fun x65=>Option.bind (bif (!x65) then((appC 24 (Sl.nil:Sl Z1) (⟨false,[(Z1.mk (10:Int) x4)]⟩:Sl Z1)).bind fun x67=>some x67) else(some (Sl.nil:Sl Z1))) fun s10_13=>Option.bind (Z78_q43 x4 x6 a2.FArgs.l s10_13) fun s10_44=>on (s10_44) fun s10_15=>Option.bind (Z78_q20 a2 x4 x6.1.FArgs.l s10_15) fun s10_21=>on (s10_21) fun s10_17=>some s10_17)
theorem Z78_eq (a0:TDoc) (a1:TDef) (a2:Z2):Z78 a0 a1 a2=Z78_q a0 a1 a2:=by
 unfold Z78 Z78_q;refine Qs ?_;refine Q.bindO rfl fun x3=>?_;refine Q.bindO rfl fun x4=>?_;refine Q.bindPO (Z53_eq _ _) fun x6 hx_x6=>?_;refine Q.condO ?_ ?_
 ·all_goals rfl
 refine Q.bindO (Z77_eq _ _ _) fun x65=>?_;refine Q.wrapOO fun Kj12 hKj12=>?_;have hj12:∀(s10_13:(Sl Z1)),Z78_j12 a2 x4 x6 s10_13=Kj12 s10_13:=by
  intro s10_13;refine Qe (hKj12 _) ?_;unfold Z78_j12;refine Q.wrapOO fun Kb43 hKb43=>?_;refine Z78_l43_qe  Kb43 ?_ _ _ _ ⟨Nat.succ_pos _,by omega⟩;intro n43 s10_44 s11_45;refine Qe (hKb43 _) ?_;refine Q.wrapPO fun Kj14 hKj14=>?_;have hj14:∀(s10_15:(Sl Z1)),Z78_j14 a2 x4 x6 s10_15=Kj14 s10_15:=by
   intro s10_15;refine Qe (hKj14 _) ?_;unfold Z78_j14;refine Q.wrapOO fun Kb20 hKb20=>?_;refine Z78_l20_qe  Kb20 ?_ _ _ _ ⟨Nat.succ_pos _,by omega⟩;intro n20 s10_21 s14_22;refine Qe (hKb20 _) ?_;refine Q.wrapPO fun Kj16 hKj16=>?_;have hj16:∀(s10_17:(Sl Z1)),Z78_j16  s10_17=Kj16 s10_17:=by
    intro s10_17;refine Qe (hKj16 _) ?_;unfold Z78_j16;all_goals rfl
   all_goals exact hj16 _
  all_goals exact hj14 _
 refine Q.condO ?_ ?_
 ·refine Q.bindO rfl fun x67=>?_;all_goals exact hj12 _
 all_goals exact hj12 _
def Z83_q30 (a0:TDoc) (a1:TDef):List Z2->(Sl Z1)->Option ((Sl Z1))
 | [],s5_31=>some s5_31
 | h30::r30,s5_31=>on (h30) fun x38=>(Z78_q a0 a1 x38).bind fun x39=>(appC 24 s5_31 x39).bind fun x40=>Z83_q30 a0 a1 (r30) x40
theorem Z83_l30_qe {a0:TDoc}{a1:TDef}{s6_9:Nat}{x28:(TDef×Bool)}{k_next_7:(Sl Z1)->Nat->Option (Sl Z1)}  (Kb30:((Sl Z1))->Option (Sl Z1)) (hend:∀(n30:Nat) (s5_31:(Sl Z1)) (s10_32:Nat),Z83_j14 s6_9 k_next_7 s5_31=Kb30 s5_31):∀(n30:Nat) (s5_31:(Sl Z1)) (s10_32:Nat),(0<n30/\x28.1.FFields.l.length<s10_32+n30)->Z83_l30 a0 a1 s6_9 x28 k_next_7 n30 s5_31 s10_32=Option.bind (Z83_q30 a0 a1 (x28.1.FFields.l.drop s10_32) s5_31) Kb30:=by
 intro n30;induction n30 with
 | zero=>intro s5_31 s10_32 hn; exact absurd hn.1 (by omega)
 | succ n30 ih30 =>
  intro s5_31 s10_32 hn;rw [Z83_l30];by_cases hlt:s10_32<x28.1.FFields.l.length
  ·obtain⟨h30,hh30⟩:=Qa hlt;rw [Q.drop_of hh30,Z83_q30];refine QT hlt ?_;refine Q.bindPO hh30 fun x38 hx_x38=>?_;refine Q.bindO (Z78_eq _ _ _) fun x39=>?_;refine Q.bindO rfl fun x40=>?_;all_goals exact ih30 _ _ ⟨by omega,by omega⟩
  rw [dL (by omega),Z83_q30];refine QF hlt ?_;exact hend n30 s5_31 s10_32
def Z83_q7 (a0:TDoc) (a1:TDef):List Bs->Nat->(Sl Z1)->Option ((Sl Z1))
 | [],s6_9,s5_8=>some s5_8
 | h7::r7,s6_9,s5_8=>on (h7) fun x17=>on (Z81_q a0 x17 (2:Int)) fun x18=>on (bif (decide (x18=(0:Int))) then(⟨a1.FImplements.nl,a1.FImplements.l.take s6_9⟩:Sl Bs) else(Sl.nil:Sl Bs)) fun x42=>on (bif (decide (x18=(0:Int))) then h7 else([]:Bs)) fun x43=>on (bif (decide (x18=(0:Int))) then Z80_q x42 x43 else false) fun x44=>on (bif ((decide (x18=(0:Int)))&&x44) then((7:Int)) else(x18)) fun s7_20=>Option.bind (bif (!decide (s7_20=(0:Int))) then((appC 24 s5_8 (⟨false,[(Z1.mk s7_20 a1.FName)]⟩:Sl Z1)).bind fun x25=>some x25) else(on (h7) fun x27=>on (Z54_q a0 x27) fun x28=>Option.bind (Z83_q30 a0 a1 x28.1.FFields.l s5_8) fun s5_31=>some s5_31)) fun s5_15=>Z83_q7 a0 a1 (r7) (s6_9+1) s5_15
theorem Z83_l7_qe {a0:TDoc}{a1:TDef}  (Kb7:((Sl Z1))->Option (Sl Z1)) (hend:∀(n7:Nat) (s5_8:(Sl Z1)) (s6_9:Nat),Z83_j3   s5_8=Kb7 s5_8):∀(n7:Nat) (s5_8:(Sl Z1)) (s6_9:Nat),(0<n7/\a1.FImplements.l.length<s6_9+n7)->Z83_l7 a0 a1 n7 s5_8 s6_9=Option.bind (Z83_q7 a0 a1 (a1.FImplements.l.drop s6_9) s6_9 s5_8) Kb7:=by
 intro n7;induction n7 with
 | zero=>intro s5_8 s6_9 hn; exact absurd hn.1 (by omega)
 | succ n7 ih7 =>
  intro s5_8 s6_9 hn;rw [Z83_l7];by_cases hlt:s6_9<a1.FImplements.l.length
  ·obtain⟨h7,hh7⟩:=Qa hlt;rw [Q.drop_of hh7,Z83_q7];refine QT hlt ?_;refine Q.bindPO hh7 fun x17 hx_x17=>?_;refine Q.bindPO (Z81_eq _ _ _) fun x18 hx_x18=>?_;refine Q.guardPO (Q.partC_take (by omega)) fun x42 hx_x42=>?_;refine Q.guardPO hh7 fun x43 hx_x43=>?_;refine Q.guardPO (Z80_eq _ _) fun x44 hx_x44=>?_;refine Q.wrapPO fun Kj19 hKj19=>?_;have hj19:∀(s7_20:Int),Z83_j19 a0 a1 s5_8 s6_9 (Z83_l7 a0 a1 n7) s7_20=Kj19 s7_20:=by
    intro s7_20;refine Qe (hKj19 _) ?_;unfold Z83_j19;refine Q.wrapOO fun Kj14 hKj14=>?_;have hj14:∀(s5_15:(Sl Z1)),Z83_j14 s6_9 (Z83_l7 a0 a1 n7) s5_15=Kj14 s5_15:=by
     intro s5_15;refine Qe (hKj14 _) ?_;unfold Z83_j14;all_goals exact ih7 _ _ ⟨by omega,by omega⟩
    refine Q.condO ?_ ?_
    ·refine Q.bindO rfl fun x25=>?_;all_goals exact hj14 _
    refine Q.bindPO hh7 fun x27 hx_x27=>?_;refine Q.bindPO (Z54_eq _ _) fun x28 hx_x28=>?_;refine Q.wrapOO fun Kb30 hKb30=>?_;refine Z83_l30_qe  Kb30 ?_ _ _ _ ⟨Nat.succ_pos _,by omega⟩;intro n30 s5_31 s10_32;refine Qe (hKb30 _) ?_;all_goals exact hj14 _
   refine Q.condP ?_ ?_
   ·all_goals exact hj19 _
   all_goals exact hj19 _
  rw [dL (by omega),Z83_q7];refine QF hlt ?_;exact hend n7 s5_8 s6_9
def Z83_q (a0:TDoc) (a1:TDef):Option (Sl Z1):=Option.bind (Z83_q7 a0 a1 a1.FImplements.l 0 (Sl.nil:Sl Z1)) fun s5_8=>on (s5_8) fun s5_4=>some s5_4
theorem Z83_eq (a0:TDoc) (a1:TDef):Z83 a0 a1=Z83_q a0 a1:=by
 unfold Z83 Z83_q;refine Qs ?_;refine Q.wrapOO fun Kb7 hKb7=>?_;refine Z83_l7_qe  Kb7 ?_ _ _ _ ⟨Nat.succ_pos _,by omega⟩;intro n7 s5_8 s6_9;refine Qe (hKb7 _) ?_;refine Q.wrapPO fun Kj3 hKj3=>?_;have hj3:∀(s5_4:(Sl Z1)),Z83_j3  s5_4=Kj3 s5_4:=by
  intro s5_4;refine Qe (hKj3 _) ?_;unfold Z83_j3;all_goals rfl
 all_goals exact hj3 _
def Z84_q7 (a0:TDoc) (a1:TDef):List Z5->Nat->(Sl Z1)->Option ((Sl Z1))
 | [],s6_9,s5_8=>some s5_8
 | h7::r7,s6_9,s5_8=>on (h7) fun x17=>on (Z81_q a0 x17.FName (1:Int)) fun x19=>on (bif (decide (x19=(0:Int))) then(⟨a1.FMembers.nl,a1.FMembers.l.take s6_9⟩:Sl Z5) else(Sl.nil:Sl Z5)) fun x28=>on (bif (decide (x19=(0:Int))) then Z82_q (TDef.mk (0:Int) ([]:Bs) (Sl.nil:Sl Bs) (Sl.nil:Sl TDir) (Sl.nil:Sl Z2) x28 (Sl.nil:Sl Z4)) x17.FName else false) fun x29=>on (bif ((decide (x19=(0:Int)))&&x29) then((7:Int)) else(x19)) fun s8_21=>Option.bind (bif (!decide (s8_21=(0:Int))) then((catC a1.FName ([46]:Bs)).bind fun x24=>(catC x24 x17.FName).bind fun x25=>(appC 24 s5_8 (⟨false,[(Z1.mk s8_21 x25)]⟩:Sl Z1)).bind fun x26=>some x26) else(some s5_8)) fun s5_15=>Z84_q7 a0 a1 (r7) (s6_9+1) s5_15
theorem Z84_l7_qe {a0:TDoc}{a1:TDef}  (Kb7:((Sl Z1))->Option (Sl Z1)) (hend:∀(n7:Nat) (s5_8:(Sl Z1)) (s6_9:Nat),Z84_j3   s5_8=Kb7 s5_8):∀(n7:Nat) (s5_8:(Sl Z1)) (s6_9:Nat),(0<n7/\a1.FMembers.l.length<s6_9+n7)->Z84_l7 a0 a1 n7 s5_8 s6_9=Option.bind (Z84_q7 a0 a1 (a1.FMembers.l.drop s6_9) s6_9 s5_8) Kb7:=by
 intro n7;induction n7 with
 | zero=>intro s5_8 s6_9 hn; exact absurd hn.1 (by omega)
 | succ n7 ih7 =>
  intro s5_8 s6_9 hn;rw [Z84_l7];by_cases hlt:s6_9<a1.FMembers.l.length
  ·obtain⟨h7,hh7⟩:=Qa hlt;rw [Q.drop_of hh7,Z84_q7];refine QT hlt ?_;refine Q.bindPO hh7 fun x17 hx_x17=>?_;refine Q.bindPO (Z81_eq _ _ _) fun x19 hx_x19=>?_;refine Q.guardPO (Q.partC_take (by omega)) fun x28 hx_x28=>?_;refine Q.guardPO (Z82_eq _ _) fun x29 hx_x29=>?_;refine Q.wrapPO fun Kj20 hKj20=>?_;have hj20:∀(s8_21:Int),Z84_j20 a1 s5_8 s6_9 x17 (Z84_l7 a0 a1 n7) s8_21=Kj20 s8_21:=by
    intro s8_21;refine Qe (hKj20 _) ?_;unfold Z84_j20;refine Q.wrapOO fun Kj14 hKj14=>?_;have hj14:∀(s5_15:(Sl Z1)),Z84_j14 s6_9 (Z84_l7 a0 a1 n7) s5_15=Kj14 s5_15:=by
     intro s5_15;refine Qe (hKj14 _) ?_;unfold Z84_j14;all_goals exact ih7 _ _ ⟨by omega,by omega⟩
    refine Q.condO ?_ ?_
    ·refine Q.bindO rfl fun x24=>?_;refine Q.bindO rfl fun x25=>?_;refine Q.bindO rfl fun x26=>?_;all_goals exact hj14 _
    all_goals exact hj14 _
   refine Q.condP ?_ ?_
   ·all_goals exact hj20 _
   all_goals exact hj20 _
  rw [dL (by omega),Z84_q7];refine QF hlt ?_;exact hend n7 s5_8 s6_9
def Z84_q (a0:TDoc) (a1:TDef):Option (Sl Z1):=Option.bind (Z84_q7 a0 a1 a1.FMembers.l 0 (Sl.nil:Sl Z1)) fun s5_8=>on (s5_8) fun s5_4=>some s5_4
theorem Z84_eq (a0:TDoc) (a1:TDef):Z84 a0 a1=Z84_q a0 a1:=by
 unfold Z84 Z84_q;refine Qs ?_;refine Q.wrapOO fun Kb7 hKb7=>?_;refine Z84_l7_qe  Kb7 ?_ _ _ _ ⟨Nat.succ_pos _,by omega⟩;intro n7 s5_8 s6_9;refine Qe (hKb7 _) ?_;refine Q.wrapPO fun Kj3 hKj3=>?_;have hj3:∀(s5_4:(Sl Z1)),Z84_j3  s5_4=Kj3 s5_4:=by
  intro s5_4;refine Qe (hKj3 _) ?_;unfold Z84_j3;all_goals rfl
 all_goals exact hj3 _
def Z73_q7 (a0:TDoc):List TDef->(Sl Z1)->Option ((Sl Z1))
 | [],s3_8=>some s3_8
 | h7::r7,s3_8=>on (h7) fun x17=>Option.bind (bif (decide (x17.FKind=(1:Int))) then(on (h7) fun x20=>(Z83_q a0 x20).bind fun x21=>(appC 24 s3_8 x21).bind fun x22=>some x22) else(bif (decide (x17.FKind=(3:Int))) then(on (h7) fun x25=>(Z84_q a0 x25).bind fun x26=>(appC 24 s3_8 x26).bind fun x27=>some x27) else(some s3_8))) fun s3_15=>Z73_q7 a0 (r7) s3_15
theorem Z73_l7_qe {a0:TDoc}  (Kb7:((Sl Z1))->Option (Sl Z1)) (hend:∀(n7:Nat) (s3_8:(Sl Z1)) (s4_9:Nat),Z73_j3   s3_8=Kb7 s3_8):∀(n7:Nat) (s3_8:(Sl Z1)) (s4_9:Nat),(0<n7/\a0.FDefs.l.length<s4_9+n7)->Z73_l7 a0 n7 s3_8 s4_9=Option.bind (Z73_q7 a0 (a0.FDefs.l.drop s4_9) s3_8) Kb7:=by
 intro n7;induction n7 with
 | zero=>intro s3_8 s4_9 hn; exact absurd hn.1 (by omega)
 | succ n7 ih7 =>
  intro s3_8 s4_9 hn;rw [Z73_l7];by_cases hlt:s4_9<a0.FDefs.l.length
  ·obtain⟨h7,hh7⟩:=Qa hlt;rw [Q.drop_of hh7,Z73_q7];refine QT hlt ?_;refine Q.bindPO hh7 fun x17 hx_x17=>?_;refine Q.wrapOO fun Kj14 hKj14=>?_;have hj14:∀(s3_15:(Sl Z1)),Z73_j14 s4_9 (Z73_l7 a0 n7) s3_15=Kj14 s3_15:=by
    intro s3_15;refine Qe (hKj14 _) ?_;unfold Z73_j14;all_goals exact ih7 _ _ ⟨by omega,by omega⟩
   refine Q.condO ?_ ?_
   ·refine Q.bindPO hh7 fun x20 hx_x20=>?_;refine Q.bindO (Z83_eq _ _) fun x21=>?_;refine Q.bindO rfl fun x22=>?_;all_goals exact hj14 _
   refine Q.condO ?_ ?_
   ·refine Q.bindPO hh7 fun x25 hx_x25=>?_;refine Q.bindO (Z84_eq _ _) fun x26=>?_;refine Q.bindO rfl fun x27=>?_;all_goals exact hj14 _
   all_goals exact hj14 _
  rw [dL (by omega),Z73_q7];refine QF hlt ?_;exact hend n7 s3_8 s4_9
def Z73_q (a0:TDoc):Option (Sl Z1):=Option.bind (Z73_q7 a0 a0.FDefs.l (Sl.nil:Sl Z1)) fun s3_8=>on (s3_8) fun s3_4=>some s3_4
theorem Z73_eq (a0:TDoc):Z73 a0=Z73_q a0:=by
 unfold Z73 Z73_q;refine Qs ?_;refine Q.wrapOO fun Kb7 hKb7=>?_;refine Z73_l7_qe  Kb7 ?_ _ _ _ ⟨Nat.succ_pos _,by omega⟩;intro n7 s3_8 s4_9;refine Qe (hKb7 _) ?_;refine Q.wrapPO fun Kj3 hKj3=>?_;have hj3:∀(s3_4:(Sl Z1)),Z73_j3  s3_4=Kj3 s3_4:=by
  intro s3_4;refine Qe (hKj3 _) ?_;unfold Z73_j3;all_goals rfl
 all_goals exact hj3 _
def Z51_q (a0:TDoc) (a1:Bs):Bool:=on (Z54_q a0 a1) fun x3=>on (Z60_q a1) fun x5=>(((!x5)&&x3.2)&&(((decide (x3.1.FKind=(1:Int)))||(decide (x3.1.FKind=(2:Int))))||(decide (x3.1.FKind=(3:Int)))))
theorem Z51_eq (a0:TDoc) (a1:Bs):Z51 a0 a1=some (Z51_q a0 a1):=by
 unfold Z51 Z51_q;refine Q.bindP (Z54_eq _ _) fun x3 hx_x3=>?_;refine Q.bindP (Z60_eq _) fun x5 hx_x5=>?_;all_goals rfl
def Z94_q (a0:TDoc) (a1:Bs):Bs:=on (Z51_q a0 a1) fun x4=>bif x4 then(a1) else(([]:Bs))
theorem Z94_eq (a0:TDoc) (a1:Bs):Z94 a0 a1=some (Z94_q a0 a1):=by
 unfold Z94 Z94_q;refine Q.bindP (Z51_eq _ _) fun x4 hx_x4=>?_;refine Q.condP ?_ ?_
 ·all_goals rfl
 all_goals rfl
def Z86_q6 (a1:Bs):List Z3->Unit ⊕ ((Z3×Bool))
 | []=>Sum.inl ()
 | h6::r6=>on (h6) fun x15=>bif ((x15.FName==a1)) then(on (h6) fun x18=>Sum.inr (x18,true)) else(Z86_q6 a1 (r6) )
theorem Z86_l6_qe {a0:Z6}{a1:Bs}  (Kb6:(Unit ⊕ ((Z3×Bool)))->Option (Z3×Bool)) (hend:∀(n6:Nat) (s6_7:Nat) (y8_l0:Z3),Z86_j2   y8_l0=Kb6 (Sum.inl ())) (hret:∀e:(Z3×Bool),some e=Kb6 (Sum.inr e)):∀(n6:Nat) (s6_7:Nat) (y8_l0:Z3),(0<n6/\a0.FFrags.l.length<s6_7+n6)->Z86_l6 a0 a1 n6 s6_7 y8_l0=Kb6 (Z86_q6 a1 (a0.FFrags.l.drop s6_7) ):=by
 intro n6;induction n6 with
 | zero=>intro s6_7 y8_l0 hn; exact absurd hn.1 (by omega)
 | succ n6 ih6 =>
  intro s6_7 y8_l0 hn;rw [Z86_l6];by_cases hlt:s6_7<a0.FFrags.l.length
  ·obtain⟨h6,hh6⟩:=Qa hlt;rw [Q.drop_of hh6,Z86_q6];refine QT hlt ?_;refine Q.bindP hh6 fun x15 hx_x15=>?_;refine Q.condP ?_ ?_
   ·refine Q.bindP hh6 fun x18 hx_x18=>?_;all_goals exact hret _
   all_goals exact ih6 _ _ ⟨by omega,by omega⟩
  rw [dL (by omega),Z86_q6];refine QF hlt ?_;exact hend n6 s6_7 y8_l0
def Z86_q (a0:Z6) (a1:Bs):(Z3×Bool):=on (Z86_q6 a1 a0.FFrags.l ) fun o6=>match o6 with|Sum.inl _=>(on (()) fun _=>((Z3.mk ([]:Bs) ([]:Bs) (Sl.nil:Sl TSel)),false))|Sum.inr e6=>(e6)
theorem Z86_eq (a0:Z6) (a1:Bs):Z86 a0 a1=some (Z86_q a0 a1):=by
 unfold Z86 Z86_q;refine Q.wrapPP fun Kb6 hKb6=>?_;refine Z86_l6_qe  Kb6 ?_ ?_ _ _ _ ⟨Nat.succ_pos _,by omega⟩
 ·intro n6 s6_7 y8_l0;refine Qe (hKb6 _) ?_;try dsimp only
  refine Q.wrapPP fun Kj2 hKj2=>?_;have hj2:∀(y3_l0:Z3),Z86_j2  y3_l0=Kj2 ():=by
   intro y3_l0;refine Qe (hKj2 _) ?_;unfold Z86_j2;all_goals rfl
  all_goals exact hj2 _
 intro e6;refine Qe (hKb6 _) ?_;try dsimp only
 all_goals rfl
def Z75_q7 (a0:TDoc) (a2:Bs):List Bs->Option (Unit ⊕ Bool)
 | []=>some (Sum.inl ())
 | h7::r7=>on (h7) fun x15=>(Z74_q a0 x15 a2).bind fun x16=>bif x16 then(some (Sum.inr true)) else(Z75_q7 a0 a2 (r7) )
theorem Z75_l7_qe {a0:TDoc}{a2:Bs}{x3:(Sl Bs)}  (Kb7:(Unit ⊕ Bool)->Option Bool) (hend:∀(n7:Nat) (s8_8:Nat),Z75_j4   =Kb7 (Sum.inl ())) (hret:∀e:Bool,some e=Kb7 (Sum.inr e)):∀(n7:Nat) (s8_8:Nat),(0<n7/\x3.l.length<s8_8+n7)->Z75_l7 a0 a2 x3 n7 s8_8=Option.bind (Z75_q7 a0 a2 (x3.l.drop s8_8) ) Kb7:=by
 intro n7;induction n7 with
 | zero=>intro s8_8 hn; exact absurd hn.1 (by omega)
 | succ n7 ih7 =>
  intro s8_8 hn;rw [Z75_l7];by_cases hlt:s8_8<x3.l.length
  ·obtain⟨h7,hh7⟩:=Qa hlt;rw [Q.drop_of hh7,Z75_q7];refine QT hlt ?_;refine Q.bindPO hh7 fun x15 hx_x15=>?_;refine Q.bindO (Z74_eq _ _ _) fun x16=>?_;refine Q.condO ?_ ?_
   ·all_goals exact hret _
   all_goals exact ih7 _ ⟨by omega,by omega⟩
  rw [dL (by omega),Z75_q7];refine QF hlt ?_;exact hend n7 s8_8
def Z75_q (a0:TDoc) (a1:Bs) (a2:Bs):Option Bool:=(Z76_q a0 a1).bind fun x3=>Option.bind (Z75_q7 a0 a2 x3.l ) fun o7=>match o7 with|Sum.inl _=>(on (()) fun _=>some false)|Sum.inr e7=>(some e7)
theorem Z75_eq (a0:TDoc) (a1:Bs) (a2:Bs):Z75 a0 a1 a2=Z75_q a0 a1 a2:=by
 unfold Z75 Z75_q;refine Qs ?_;refine Q.bindO (Z76_eq _ _) fun x3=>?_;refine Q.wrapOO fun Kb7 hKb7=>?_;refine Z75_l7_qe  Kb7 ?_ ?_ _ _ ⟨Nat.succ_pos _,by omega⟩
 ·intro n7 s8_8;refine Qe (hKb7 _) ?_;try dsimp only
  refine Q.wrapPO fun Kj4 hKj4=>?_;have hj4:Z75_j4  =Kj4 ():=by
   refine Qe (hKj4 _) ?_;unfold Z75_j4;all_goals rfl
  all_goals exact hj4
 intro e7;refine Qe (hKb7 _) ?_;try dsimp only
 all_goals rfl
def Z88_q (a0:TDoc) (a1:Bs) (a2:Bs) (a3:Bs):Option (Sl Z1):=guardO (!(((a1==([]:Bs)))||((a2==([]:Bs))))) (Z75_q a0 a1 a2) false fun x4=>bif ((((a1==([]:Bs)))||((a2==([]:Bs))))||x4) then(some (Sl.nil:Sl Z1)) else(some (⟨false,[(Z1.mk (25:Int) a3)]⟩:Sl Z1))
theorem Z88_eq (a0:TDoc) (a1:Bs) (a2:Bs) (a3:Bs):Z88 a0 a1 a2 a3=Z88_q a0 a1 a2 a3:=by
 unfold Z88 Z88_q;refine Qs ?_;refine Q.guardOO (Z75_eq _ _ _) fun x4=>?_;refine Q.condO ?_ ?_
 ·all_goals rfl
 all_goals rfl
def Z98_q (a0:TDoc) (a1:Bs) (a2:Bs):Bs:=on (Z54_q a0 a1) fun x3=>on (Z53_q x3.1 a2) fun x5=>bif ((((a1==([]:Bs)))||(!x3.2))||(!x5.2)) then(([]:Bs)) else(on (Z94_q a0 x5.1.FType.FName) fun x11=>x11)
theorem Z98_eq (a0:TDoc) (a1:Bs) (a2:Bs):Z98 a0 a1 a2=some (Z98_q a0 a1 a2):=by
 unfold Z98 Z98_q;refine Q.bindP (Z54_eq _ _) fun x3 hx_x3=>?_;refine Q.bindP (Z53_eq _ _) fun x5 hx_x5=>?_;refine Q.condP ?_ ?_
 ·all_goals rfl
 refine Q.bindP (Z94_eq _ _) fun x11 hx_x11=>?_;all_goals rfl
def Z93_q (a0:TSel):Bs:=bif (!(a0.FAlias==([]:Bs))) then(a0.FAlias) else(a0.FName)
theorem Z93_eq (a0:TSel):Z93 a0=some (Z93_q a0):=by
 unfold Z93 Z93_q;refine Q.condP ?_ ?_
 ·all_goals rfl
 all_goals rfl
def Z95_q7 (a0:TDoc) (a1:Z6) (a3:Bs) (a4:Bs) (k_rec_39:TDoc->Z6->(Sl TSel)->Bs->Bs->Option (Sl Z1)):List TSel->(Sl Z1)->Option ((Sl Z1))
 | [],s11_8=>some s11_8
 | h7::r7,s11_8=>on (h7) fun x17=>Option.bind (bif (decide (x17.FKind=(2:Int))) then(on (Z86_q a1 x17.FName) fun x22=>bif (!x22.2) then((appC 24 s11_8 (⟨false,[(Z1.mk (24:Int) a4)]⟩:Sl Z1)).bind fun x25=>some x25) else(on (Z94_q a0 x22.1.FOn) fun x26=>(Z88_q a0 a3 x26 a4).bind fun x27=>(appC 24 s11_8 x27).bind fun x28=>some x28)) else(bif (decide (x17.FKind=(3:Int))) then(Option.bind (bif (!(x17.FOn==([]:Bs))) then(on (Z94_q a0 x17.FOn) fun x40=>Option.bind (bif ((x40==([]:Bs))) then((appC 24 s11_8 (⟨false,[(Z1.mk (24:Int) a4)]⟩:Sl Z1)).bind fun x47=>some x47) else(some s11_8)) fun s11_42=>(Z88_q a0 a3 x40 a4).bind fun x43=>(appC 24 s11_42 x43).bind fun x44=>some (x44,x40)) else(some (s11_8,a3))) fun z32=>(k_rec_39 a0 a1 x17.FSels z32.2 a4).bind fun x35=>(appC 24 z32.1 x35).bind fun x36=>some x36) else(on (Z98_q a0 a3 x17.FName) fun x48=>(catC a4 ([47]:Bs)).bind fun x49=>on (Z93_q x17) fun x50=>(catC x49 x50).bind fun x51=>(k_rec_39 a0 a1 x17.FSels x48 x51).bind fun x52=>(appC 24 s11_8 x52).bind fun x53=>some x53))) fun s11_15=>Z95_q7 a0 a1 a3 a4 k_rec_39 (r7) s11_15
theorem Z95_l7_qe {a0:TDoc}{a1:Z6}{a2:(Sl TSel)}{a3:Bs}{a4:Bs}{k_rec_39:TDoc->Z6->(Sl TSel)->Bs->Bs->Option (Sl Z1)}  (Kb7:((Sl Z1))->Option (Sl Z1)) (hend:∀(n7:Nat) (s11_8:(Sl Z1)) (s12_9:Nat),Z95_j3   s11_8=Kb7 s11_8):∀(n7:Nat) (s11_8:(Sl Z1)) (s12_9:Nat),(0<n7/\a2.l.length<s12_9+n7)->Z95_l7 a0 a1 a2 a3 a4 k_rec_39 n7 s11_8 s12_9=Option.bind (Z95_q7 a0 a1 a3 a4 k_rec_39 (a2.l.drop s12_9) s11_8) Kb7:=by
 intro n7;induction n7 with
 | zero=>intro s11_8 s12_9 hn; exact absurd hn.1 (by omega)
 | succ n7 ih7 =>
  intro s11_8 s12_9 hn;rw [Z95_l7];by_cases hlt:s12_9<a2.l.length
  ·obtain⟨h7,hh7⟩:=Qa hlt;rw [Q.drop_of hh7,Z95_q7];refine QT hlt ?_;refine Q.bindPO hh7 fun x17 hx_x17=>?_;refine Q.wrapOO fun Kj14 hKj14=>?_;have hj14:∀(s11_15:(Sl Z1)),Z95_j14 s12_9 (Z95_l7 a0 a1 a2 a3 a4 k_rec_39 n7) s11_15=Kj14 s11_15:=by
    intro s11_15;refine Qe (hKj14 _) ?_;unfold Z95_j14;all_goals exact ih7 _ _ ⟨by omega,by omega⟩
   refine Q.condO ?_ ?_
   ·refine Q.bindPO (Z86_eq _ _) fun x22 hx_x22=>?_;refine Q.condO ?_ ?_
    ·refine Q.bindO rfl fun x25=>?_;all_goals exact hj14 _
    refine Q.bindPO (Z94_eq _ _) fun x26 hx_x26=>?_;refine Q.bindO (Z88_eq _ _ _ _) fun x27=>?_;refine Q.bindO rfl fun x28=>?_;all_goals exact hj14 _
   refine Q.condO ?_ ?_
   ·refine Q.wrapOO fun Kj32 hKj32=>?_;have hj32:∀(s11_33:(Sl Z1)) (s16_34:Bs),Z95_j32 a0 a1 a4 s12_9 x17 (Z95_l7 a0 a1 a2 a3 a4 k_rec_39 n7) k_rec_39 s11_33 s16_34=Kj32 (s11_33,s16_34):=by
     intro s11_33 s16_34;refine Qe (hKj32 _) ?_;try dsimp only
     unfold Z95_j32;refine Q.bindO rfl fun x35=>?_;refine Q.bindO rfl fun x36=>?_;all_goals exact hj14 _
    refine Q.condO ?_ ?_
    ·refine Q.bindPO (Z94_eq _ _) fun x40 hx_x40=>?_;refine Q.wrapOO fun Kj41 hKj41=>?_;have hj41:∀(s11_42:(Sl Z1)),Z95_j41 a0 a1 a3 a4 s12_9 x17 x40 (Z95_l7 a0 a1 a2 a3 a4 k_rec_39 n7) k_rec_39 s11_42=Kj41 s11_42:=by
      intro s11_42;refine Qe (hKj41 _) ?_;unfold Z95_j41;refine Q.bindO (Z88_eq _ _ _ _) fun x43=>?_;refine Q.bindO rfl fun x44=>?_;all_goals exact hj32 _ _
     refine Q.condO ?_ ?_
     ·refine Q.bindO rfl fun x47=>?_;all_goals exact hj41 _
     all_goals exact hj41 _
    all_goals exact hj32 _ _
   refine Q.bindPO (Z98_eq _ _ _) fun x48 hx_x48=>?_;refine Q.bindO rfl fun x49=>?_;refine Q.bindPO (Z93_eq _) fun x50 hx_x50=>?_;refine Q.bindO rfl fun x51=>?_;refine Q.bindO rfl fun x52=>?_;refine Q.bindO rfl fun x53=>?_;all_goals exact hj14 _
  rw [dL (by omega),Z95_q7];refine QF hlt ?_;exact hend n7 s11_8 s12_9
def Z95_qn:Nat->TDoc->Z6->(Sl TSel)->Bs->Bs->Option (Sl Z1)
 | 0,_,_,_,_,_=>none
 | n+1,a0,a1,a2,a3,a4=>Option.bind (Z95_q7 a0 a1 a3 a4 (Z95_qn n) a2.l (Sl.nil:Sl Z1)) fun s11_8=>on (s11_8) fun s11_4=>some s11_4
theorem Z95_qall:∀n:Nat,Z95_n n=Z95_qn n:=by
 intro n;induction n with
 | zero=>exact(by funext a0 a1 a2 a3 a4; first|rfl|(rw [Z95_n,Z95_qn]))
 | succ n ih =>
  funext a0 a1 a2 a3 a4
  refine Qs ?_;rw [Z95_n,Z95_qn];try rw [ih]
  refine Q.wrapOO fun Kb7 hKb7=>?_;refine Z95_l7_qe  Kb7 ?_ _ _ _ ⟨Nat.succ_pos _,by omega⟩;intro n7 s11_8 s12_9;refine Qe (hKb7 _) ?_;refine Q.wrapPO fun Kj3 hKj3=>?_;have hj3:∀(s11_4:(Sl Z1)),Z95_j3  s11_4=Kj3 s11_4:=by
   intro s11_4;refine Qe (hKj3 _) ?_;unfold Z95_j3;all_goals rfl
  all_goals exact hj3 _
def Z95_q (a0:TDoc) (a1:Z6) (a2:(Sl TSel)) (a3:Bs) (a4:Bs):Option (Sl Z1):=Z95_qn F0 a0 a1 a2 a3 a4
theorem Z95_eq (a0:TDoc) (a1:Z6) (a2:(Sl TSel)) (a3:Bs) (a4:Bs):Z95 a0 a1 a2 a3 a4=Z95_q a0 a1 a2 a3 a4:=by
 unfold Z95 Z95_q; rw [(Z95_qall F0)]
def Z59_q (a0:Int):Bs:=bif (decide (a0=(1:Int))) then(([81,117,101,114,121]:Bs)) else(bif (decide (a0=(2:Int))) then(([77,117,116,97,116,105,111,110]:Bs)) else(bif (decide (a0=(3:Int))) then(([83,117,98,115,99,114,105,112,116,105,111,110]:Bs)) else(([]:Bs))))
theorem Z59_eq (a0:Int):Z59 a0=some (Z59_q a0):=by
 unfold Z59 Z59_q;refine Q.condP ?_ ?_
 ·all_goals rfl
 refine Q.condP ?_ ?_
 ·all_goals rfl
 refine Q.condP ?_ ?_
 ·all_goals rfl
 all_goals rfl
def Z92_q5 (a1:Bs):List Bs->Unit ⊕ Bool
 | []=>Sum.inl ()
 | h5::r5=>on (h5) fun x13=>bif ((x13==a1)) then(Sum.inr true) else(Z92_q5 a1 (r5) )
theorem Z92_l5_qe {a0:(Sl Bs)}{a1:Bs}  (Kb5:(Unit ⊕ Bool)->Option Bool) (hend:∀(n5:Nat) (s5_6:Nat),Z92_j2   =Kb5 (Sum.inl ())) (hret:∀e:Bool,some e=Kb5 (Sum.inr e)):∀(n5:Nat) (s5_6:Nat),(0<n5/\a0.l.length<s5_6+n5)->Z92_l5 a0 a1 n5 s5_6=Kb5 (Z92_q5 a1 (a0.l.drop s5_6) ):=by
 intro n5;induction n5 with
 | zero=>intro s5_6 hn; exact absurd hn.1 (by omega)
 | succ n5 ih5 =>
  intro s5_6 hn;rw [Z92_l5];by_cases hlt:s5_6<a0.l.length
  ·obtain⟨h5,hh5⟩:=Qa hlt;rw [Q.drop_of hh5,Z92_q5];refine QT hlt ?_;refine Q.bindP hh5 fun x13 hx_x13=>?_;refine Q.condP ?_ ?_
   ·all_goals exact hret _
   all_goals exact ih5 _ ⟨by omega,by omega⟩
  rw [dL (by omega),Z92_q5];refine QF hlt ?_;exact hend n5 s5_6
def Z92_q (a0:(Sl Bs)) (a1:Bs):Bool:=on (Z92_q5 a1 a0.l ) fun o5=>match o5 with|Sum.inl _=>(on (()) fun _=>false)|Sum.inr e5=>(e5)
theorem Z92_eq (a0:(Sl Bs)) (a1:Bs):Z92 a0 a1=some (Z92_q a0 a1):=by
 unfold Z92 Z92_q;refine Q.wrapPP fun Kb5 hKb5=>?_;refine Z92_l5_qe  Kb5 ?_ ?_ _ _ ⟨Nat.succ_pos _,by omega⟩
 ·intro n5 s5_6;refine Qe (hKb5 _) ?_;try dsimp only
  refine Q.wrapPP fun Kj2 hKj2=>?_;have hj2:Z92_j2  =Kj2 ():=by
   refine Qe (hKj2 _) ?_;unfold Z92_j2;all_goals rfl
  all_goals exact hj2
 intro e5;refine Qe (hKb5 _) ?_;try dsimp only
 all_goals rfl
def Z97_q8 (a0:Z6) (k_rec_83:Z6->(Sl TSel)->(Sl Bs)->Option ((Sl Bs)×Bool)):List TSel->(Sl Bs)->Bool->Option (((Sl Bs)×Bool))
 | [],s2_9,s8_10=>some (s2_9,s8_10)
 | h8::r8,s2_9,s8_10=>on (h8) fun x20=>on (h8) fun x29=>Option.bind (on (fun(s2_22:(Sl Bs)) (s8_23:Bool) (s10_24:(Sl TSel))=>(k_rec_83 a0 s10_24 s2_22).bind fun x26=>some (x26.1,(s8_23&&x26.2))) fun kj21=>bif (decide (x29.FKind=(2:Int))) then(on (h8) fun x32=>on (Z86_q a0 x32.FName) fun x33=>on (bif (!x33.2) then(false) else(s8_10)) fun s8_35=>on (bif !(!x33.2) then Z92_q s2_9 x33.1.FName else false) fun x38=>bif ((!x33.2)||x38) then(some (s2_9,s8_35)) else((appC 16 s2_9 (⟨false,[x33.1.FName]⟩:Sl Bs)).bind fun x41=>kj21 x41 s8_35 x33.1.FSels)) else(kj21 s2_9 s8_10 x20.FSels)) fun z16=>Z97_q8 a0 k_rec_83 (r8) z16.1 z16.2
theorem Z97_l8_qe {a0:Z6}{a1:(Sl TSel)}{k_rec_83:Z6->(Sl TSel)->(Sl Bs)->Option ((Sl Bs)×Bool)}  (Kb8:(((Sl Bs)×Bool))->Option ((Sl Bs)×Bool)) (hend:∀(n8:Nat) (s2_9:(Sl Bs)) (s8_10:Bool) (s9_11:Nat),Z97_j3   s2_9 s8_10=Kb8 (s2_9,s8_10)):∀(n8:Nat) (s2_9:(Sl Bs)) (s8_10:Bool) (s9_11:Nat),(0<n8/\a1.l.length<s9_11+n8)->Z97_l8 a0 a1 k_rec_83 n8 s2_9 s8_10 s9_11=Option.bind (Z97_q8 a0 k_rec_83 (a1.l.drop s9_11) s2_9 s8_10) Kb8:=by
 intro n8;induction n8 with
 | zero=>intro s2_9 s8_10 s9_11 hn; exact absurd hn.1 (by omega)
 | succ n8 ih8 =>
  intro s2_9 s8_10 s9_11 hn;rw [Z97_l8];by_cases hlt:s9_11<a1.l.length
  ·obtain⟨h8,hh8⟩:=Qa hlt;rw [Q.drop_of hh8,Z97_q8];refine QT hlt ?_;refine Q.bindPO hh8 fun x20 hx_x20=>?_;refine Q.bindPO hh8 fun x29 hx_x29=>?_;refine Q.wrapOO fun Kj16 hKj16=>?_;have hj16:∀(s2_17:(Sl Bs)) (s8_18:Bool),Z97_j16 s9_11 (Z97_l8 a0 a1 k_rec_83 n8) s2_17 s8_18=Kj16 (s2_17,s8_18):=by
    intro s2_17 s8_18;refine Qe (hKj16 _) ?_;try dsimp only
    unfold Z97_j16;all_goals exact ih8 _ _ _ ⟨by omega,by omega⟩
   refine Q.mixO fun kj21 hkj21=>?_;have hj21:∀(s2_22:(Sl Bs)) (s8_23:Bool) (s10_24:(Sl TSel)),Z97_j21 a0 s9_11 (Z97_l8 a0 a1 k_rec_83 n8) k_rec_83 s2_22 s8_23 s10_24=Option.bind (kj21 s2_22 s8_23 s10_24) Kj16:=by
    intro s2_22 s8_23 s10_24;unfold Z97_j21;rw [hkj21];try dsimp only
    refine Q.bindO rfl fun x26=>?_;all_goals exact hj16 _ _
   refine Q.condO ?_ ?_
   ·refine Q.bindPO hh8 fun x32 hx_x32=>?_;refine Q.bindPO (Z86_eq _ _) fun x33 hx_x33=>?_;refine Q.wrapPO fun Kj34 hKj34=>?_;have hj34:∀(s8_35:Bool),Z97_j34 a0 s2_9 s9_11 x33 (Z97_l8 a0 a1 k_rec_83 n8) k_rec_83 s8_35=Kj34 s8_35:=by
     intro s8_35;refine Qe (hKj34 _) ?_;unfold Z97_j34;refine Q.guardPO (Z92_eq _ _) fun x38 hx_x38=>?_;refine Q.condO ?_ ?_
     ·all_goals exact hj16 _ _
     refine Q.bindO rfl fun x41=>?_;all_goals exact hj21 _ _ _
    refine Q.condP ?_ ?_
    ·all_goals exact hj34 _
    all_goals exact hj34 _
   all_goals exact hj21 _ _ _
  rw [dL (by omega),Z97_q8];refine QF hlt ?_;exact hend n8 s2_9 s8_10 s9_11
def Z97_qn:Nat->Z6->(Sl TSel)->(Sl Bs)->Option ((Sl Bs)×Bool)
 | 0,_,_,_=>none
 | n+1,a0,a1,a2=>Option.bind (Z97_q8 a0 (Z97_qn n) a1.l a2 true) fun z8=>on ((z8.1,z8.2)) fun z3=>some (z3.1,z3.2)
theorem Z97_qall:∀n:Nat,Z97_n n=Z97_qn n:=by
 intro n;induction n with
 | zero=>exact(by funext a0 a1 a2; first|rfl|(rw [Z97_n,Z97_qn]))
 | succ n ih =>
  funext a0 a1 a2
  refine Qs ?_;rw [Z97_n,Z97_qn];try rw [ih]
  refine Q.wrapOO fun Kb8 hKb8=>?_;refine Z97_l8_qe  Kb8 ?_ _ _ _ _ ⟨Nat.succ_pos _,by omega⟩;intro n8 s2_9 s8_10 s9_11;refine Qe (hKb8 _) ?_;try dsimp only
  refine Q.wrapPO fun Kj3 hKj3=>?_;have hj3:∀(s2_4:(Sl Bs)) (s8_5:Bool),Z97_j3  s2_4 s8_5=Kj3 (s2_4,s8_5):=by
   intro s2_4 s8_5;refine Qe (hKj3 _) ?_;try dsimp only
   unfold Z97_j3;all_goals rfl
  all_goals exact hj3 _ _
def Z97_q (a0:Z6) (a1:(Sl TSel)) (a2:(Sl Bs)):Option ((Sl Bs)×Bool):=Z97_qn F0 a0 a1 a2
theorem Z97_eq (a0:Z6) (a1:(Sl TSel)) (a2:(Sl Bs)):Z97 a0 a1 a2=Z97_q a0 a1 a2:=by
 unfold Z97 Z97_q; rw [(Z97_qall F0)]
def Z89_q (a0:Z6) (a1:Z3):Option Bool:=(Z97_q a0 a1.FSels (Sl.nil:Sl Bs)).bind fun x4=>on (Z92_q x4.1 a1.FName) fun x6=>some x6
theorem Z89_eq (a0:Z6) (a1:Z3):Z89 a0 a1=Z89_q a0 a1:=by
 unfold Z89 Z89_q;refine Qs ?_;refine Q.bindO (Z97_eq _ _ _) fun x4=>?_;refine Q.bindPO (Z92_eq _ _) fun x6 hx_x6=>?_;all_goals rfl
def Z96_q5 (a0:Z6) (a1:Bs):List TOp->Option (Unit ⊕ Bool)
 | []=>some (Sum.inl ())
 | h5::r5=>on (h5) fun x14=>(Z97_q a0 x14.FSels (Sl.nil:Sl Bs)).bind fun x15=>on (Z92_q x15.1 a1) fun x17=>bif x17 then(some (Sum.inr true)) else(Z96_q5 a0 a1 (r5) )
theorem Z96_l5_qe {a0:Z6}{a1:Bs}  (Kb5:(Unit ⊕ Bool)->Option Bool) (hend:∀(n5:Nat) (s5_6:Nat),Z96_j2   =Kb5 (Sum.inl ())) (hret:∀e:Bool,some e=Kb5 (Sum.inr e)):∀(n5:Nat) (s5_6:Nat),(0<n5/\a0.FOps.l.length<s5_6+n5)->Z96_l5 a0 a1 n5 s5_6=Option.bind (Z96_q5 a0 a1 (a0.FOps.l.drop s5_6) ) Kb5:=by
 intro n5;induction n5 with
 | zero=>intro s5_6 hn; exact absurd hn.1 (by omega)
 | succ n5 ih5 =>
  intro s5_6 hn;rw [Z96_l5];by_cases hlt:s5_6<a0.FOps.l.length
  ·obtain⟨h5,hh5⟩:=Qa hlt;rw [Q.drop_of hh5,Z96_q5];refine QT hlt ?_;refine Q.bindPO hh5 fun x14 hx_x14=>?_;refine Q.bindO (Z97_eq _ _ _) fun x15=>?_;refine Q.bindPO (Z92_eq _ _) fun x17 hx_x17=>?_;refine Q.condO ?_ ?_
   ·all_goals exact hret _
   all_goals exact ih5 _ ⟨by omega,by omega⟩
  rw [dL (by omega),Z96_q5];refine QF hlt ?_;exact hend n5 s5_6
def Z96_q (a0:Z6) (a1:Bs):Option Bool:=Option.bind (Z96_q5 a0 a1 a0.FOps.l ) fun o5=>match o5 with|Sum.inl _=>(on (()) fun _=>some false)|Sum.inr e5=>(some e5)
theorem Z96_eq (a0:Z6) (a1:Bs):Z96 a0 a1=Z96_q a0 a1:=by
 unfold Z96 Z96_q;refine Qs ?_;refine Q.wrapOO fun Kb5 hKb5=>?_;refine Z96_l5_qe  Kb5 ?_ ?_ _ _ ⟨Nat.succ_pos _,by omega⟩
 ·intro n5 s5_6;refine Qe (hKb5 _) ?_;try dsimp only
  refine Q.wrapPO fun Kj2 hKj2=>?_;have hj2:Z96_j2  =Kj2 ():=by
   refine Qe (hKj2 _) ?_;unfold Z96_j2;all_goals rfl
  all_goals exact hj2
 intro e5;refine Qe (hKb5 _) ?_;try dsimp only
 all_goals rfl
def Z85_q42 (a0:TDoc) (a1:Z6):List TOp->(Sl Z1)->Option ((Sl Z1))
 | [],s5_43=>some s5_43
 | h42::r42,s5_43=>on (h42) fun x50=>on (h42) fun x51=>on (Z59_q x51.FKind) fun x52=>on (Z94_q a0 x52) fun x53=>on (h42) fun x54=>(Z95_q a0 a1 x50.FSels x53 x54.FName).bind fun x55=>(appC 24 s5_43 x55).bind fun x56=>Z85_q42 a0 a1 (r42) x56
theorem Z85_l42_qe {a0:TDoc}{a1:Z6}  (Kb42:((Sl Z1))->Option (Sl Z1)) (hend:∀(n42:Nat) (s5_43:(Sl Z1)) (s6_44:Nat),Z85_j3 a0 a1  s5_43=Kb42 s5_43):∀(n42:Nat) (s5_43:(Sl Z1)) (s6_44:Nat),(0<n42/\a1.FOps.l.length<s6_44+n42)->Z85_l42 a0 a1 n42 s5_43 s6_44=Option.bind (Z85_q42 a0 a1 (a1.FOps.l.drop s6_44) s5_43) Kb42:=by
 intro n42;induction n42 with
 | zero=>intro s5_43 s6_44 hn; exact absurd hn.1 (by omega)
 | succ n42 ih42 =>
  intro s5_43 s6_44 hn;rw [Z85_l42];by_cases hlt:s6_44<a1.FOps.l.length
  ·obtain⟨h42,hh42⟩:=Qa hlt;rw [Q.drop_of hh42,Z85_q42];refine QT hlt ?_;refine Q.bindPO hh42 fun x50 hx_x50=>?_;refine Q.bindPO hh42 fun x51 hx_x51=>?_;refine Q.bindPO (Z59_eq _) fun x52 hx_x52=>?_;refine Q.bindPO (Z94_eq _ _) fun x53 hx_x53=>?_;refine Q.bindPO hh42 fun x54 hx_x54=>?_;refine Q.bindO (Z95_eq _ _ _ _ _) fun x55=>?_;refine Q.bindO rfl fun x56=>?_;all_goals exact ih42 _ _ ⟨by omega,by omega⟩
  rw [dL (by omega),Z85_q42];refine QF hlt ?_;exact hend n42 s5_43 s6_44
def Z85_q9 (a0:TDoc) (a1:Z6):List Z3->(Sl Z1)->Option ((Sl Z1))
 | [],s5_10=>some s5_10
 | h9::r9,s5_10=>on (h9) fun x19=>on (Z94_q a0 x19.FOn) fun x38=>Option.bind (bif ((x38==([]:Bs))) then((appC 24 s5_10 (⟨false,[(Z1.mk (24:Int) x19.FName)]⟩:Sl Z1)).bind fun x40=>some x40) else(some s5_10)) fun s5_21=>(Z89_q a1 x19).bind fun x34=>Option.bind (bif x34 then((appC 24 s5_21 (⟨false,[(Z1.mk (24:Int) x19.FName)]⟩:Sl Z1)).bind fun x36=>some x36) else(some s5_21)) fun s5_23=>(Z96_q a1 x19.FName).bind fun x30=>Option.bind (bif (!x30) then((appC 24 s5_23 (⟨false,[(Z1.mk (26:Int) x19.FName)]⟩:Sl Z1)).bind fun x32=>some x32) else(some s5_23)) fun s5_25=>on (Z94_q a0 x19.FOn) fun x26=>(Z95_q a0 a1 x19.FSels x26 x19.FName).bind fun x27=>(appC 24 s5_25 x27).bind fun x28=>on (x28) fun s5_17=>Z85_q9 a0 a1 (r9) s5_17
theorem Z85_l9_qe {a0:TDoc}{a1:Z6}  (Kb9:((Sl Z1))->Option (Sl Z1)) (hend:∀(n9:Nat) (s5_10:(Sl Z1)) (s7_11:Nat),Z85_j5   s5_10=Kb9 s5_10):∀(n9:Nat) (s5_10:(Sl Z1)) (s7_11:Nat),(0<n9/\a1.FFrags.l.length<s7_11+n9)->Z85_l9 a0 a1 n9 s5_10 s7_11=Option.bind (Z85_q9 a0 a1 (a1.FFrags.l.drop s7_11) s5_10) Kb9:=by
 intro n9;induction n9 with
 | zero=>intro s5_10 s7_11 hn; exact absurd hn.1 (by omega)
 | succ n9 ih9 =>
  intro s5_10 s7_11 hn;rw [Z85_l9];by_cases hlt:s7_11<a1.FFrags.l.length
  ·obtain⟨h9,hh9⟩:=Qa hlt;rw [Q.drop_of hh9,Z85_q9];refine QT hlt ?_;refine Q.bindPO hh9 fun x19 hx_x19=>?_;refine Q.bindPO (Z94_eq _ _) fun x38 hx_x38=>?_;refine Q.wrapOO fun Kj20 hKj20=>?_;have hj20:∀(s5_21:(Sl Z1)),Z85_j20 a0 a1 s7_11 x19 (Z85_l9 a0 a1 n9) s5_21=Kj20 s5_21:=by
    intro s5_21;refine Qe (hKj20 _) ?_;unfold Z85_j20;refine Q.bindO (Z89_eq _ _) fun x34=>?_;refine Q.wrapOO fun Kj22 hKj22=>?_;have hj22:∀(s5_23:(Sl Z1)),Z85_j22 a0 a1 s7_11 x19 (Z85_l9 a0 a1 n9) s5_23=Kj22 s5_23:=by
     intro s5_23;refine Qe (hKj22 _) ?_;unfold Z85_j22;refine Q.bindO (Z96_eq _ _) fun x30=>?_;refine Q.wrapOO fun Kj24 hKj24=>?_;have hj24:∀(s5_25:(Sl Z1)),Z85_j24 a0 a1 s7_11 x19 (Z85_l9 a0 a1 n9) s5_25=Kj24 s5_25:=by
      intro s5_25;refine Qe (hKj24 _) ?_;unfold Z85_j24;refine Q.bindPO (Z94_eq _ _) fun x26 hx_x26=>?_;refine Q.bindO (Z95_eq _ _ _ _ _) fun x27=>?_;refine Q.bindO rfl fun x28=>?_;refine Q.wrapPO fun Kj16 hKj16=>?_;have hj16:∀(s5_17:(Sl Z1)),Z85_j16 s7_11 (Z85_l9 a0 a1 n9) s5_17=Kj16 s5_17:=by
       intro s5_17;refine Qe (hKj16 _) ?_;unfold Z85_j16;all_goals exact ih9 _ _ ⟨by omega,by omega⟩
      all_goals exact hj16 _
     refine Q.condO ?_ ?_
     ·refine Q.bindO rfl fun x32=>?_;all_goals exact hj24 _
     all_goals exact hj24 _
    refine Q.condO ?_ ?_
    ·refine Q.bindO rfl fun x36=>?_;all_goals exact hj22 _
    all_goals exact hj22 _
   refine Q.condO ?_ ?_
   ·refine Q.bindO rfl fun x40=>?_;all_goals exact hj20 _
   all_goals exact hj20 _
  rw [dL (by omega),Z85_q9];refine QF hlt ?_;exact hend n9 s5_10 s7_11
def Z85_q (a0:TDoc) (a1:Z6):Option (Sl Z1):=Option.bind (Z85_q42 a0 a1 a1.FOps.l (Sl.nil:Sl Z1)) fun s5_43=>on (s5_43) fun s5_4=>Option.bind (Z85_q9 a0 a1 a1.FFrags.l s5_4) fun s5_10=>on (s5_10) fun s5_6=>some s5_6
theorem Z85_eq (a0:TDoc) (a1:Z6):Z85 a0 a1=Z85_q a0 a1:=by
 unfold Z85 Z85_q;refine Qs ?_;refine Q.wrapOO fun Kb42 hKb42=>?_;refine Z85_l42_qe  Kb42 ?_ _ _ _ ⟨Nat.succ_pos _,by omega⟩;intro n42 s5_43 s6_44;refine Qe (hKb42 _) ?_;refine Q.wrapPO fun Kj3 hKj3=>?_;have hj3:∀(s5_4:(Sl Z1)),Z85_j3 a0 a1 s5_4=Kj3 s5_4:=by
  intro s5_4;refine Qe (hKj3 _) ?_;unfold Z85_j3;refine Q.wrapOO fun Kb9 hKb9=>?_;refine Z85_l9_qe  Kb9 ?_ _ _ _ ⟨Nat.succ_pos _,by omega⟩;intro n9 s5_10 s7_11;refine Qe (hKb9 _) ?_;refine Q.wrapPO fun Kj5 hKj5=>?_;have hj5:∀(s5_6:(Sl Z1)),Z85_j5  s5_6=Kj5 s5_6:=by
   intro s5_6;refine Qe (hKj5 _) ?_;unfold Z85_j5;all_goals rfl
  all_goals exact hj5 _
 all_goals exact hj3 _
def Z24_q (a0:TDoc) (a1:Z6):Option Bool:=(Z57_q a0).bind fun x3=>guardO ((!x3)) (Z87_q a1) false fun x4=>guardO (((!x3)&&(!x4))) (Z43_q a1) false fun x5=>guardO ((((!x3)&&(!x4))&&x5)) (Z50_q a0 false) (Sl.nil:Sl Z1) fun x6=>guardO (((((!x3)&&(!x4))&&x5)&&(decide (((x6.l.length:Nat):Int)=(0:Int))))) (Z73_q a0) (Sl.nil:Sl Z1) fun x7=>guardO ((((((!x3)&&(!x4))&&x5)&&(decide (((x6.l.length:Nat):Int)=(0:Int))))&&(decide (((x7.l.length:Nat):Int)=(0:Int))))) (Z85_q a0 a1) (Sl.nil:Sl Z1) fun x8=>some ((((((!x3)&&(!x4))&&x5)&&(decide (((x6.l.length:Nat):Int)=(0:Int))))&&(decide (((x7.l.length:Nat):Int)=(0:Int))))&&(decide (((x8.l.length:Nat):Int)=(0:Int))))
theorem Z24_eq (a0:TDoc) (a1:Z6):Z24 a0 a1=Z24_q a0 a1:=by
 unfold Z24 Z24_q;refine Qs ?_;refine Q.bindO (Z57_eq _) fun x3=>?_;refine Q.guardOO (Z87_eq _) fun x4=>?_;refine Q.guardOO (Z43_eq _) fun x5=>?_;refine Q.guardOO (Z50_eq _ _) fun x6=>?_;refine Q.guardOO (Z73_eq _) fun x7=>?_;refine Q.guardOO (Z85_eq _ _) fun x8=>?_;all_goals rfl
def Z18_q7 (a1:Bs):List Z3->Unit ⊕ ((Z3×Bool))
 | []=>Sum.inl ()
 | h7::r7=>on (h7) fun x15=>bif ((x15.FName==a1)) then(Sum.inr (x15,true)) else(Z18_q7 a1 (r7) )
theorem Z18_l7_qe {a0:Z6}{a1:Bs}  (Kb7:(Unit ⊕ ((Z3×Bool)))->Option (Z3×Bool)) (hend:∀(n7:Nat) (s11_8:Nat) (y9_l0:Z3),Z18_j2   y9_l0=Kb7 (Sum.inl ())) (hret:∀e:(Z3×Bool),some e=Kb7 (Sum.inr e)):∀(n7:Nat) (s11_8:Nat) (y9_l0:Z3),(0<n7/\a0.FFrags.l.length<s11_8+n7)->Z18_l7 a0 a1 n7 s11_8 y9_l0=Kb7 (Z18_q7 a1 (a0.FFrags.l.drop s11_8) ):=by
 intro n7;induction n7 with
 | zero=>intro s11_8 y9_l0 hn; exact absurd hn.1 (by omega)
 | succ n7 ih7 =>
  intro s11_8 y9_l0 hn;rw [Z18_l7];by_cases hlt:s11_8<a0.FFrags.l.length
  ·obtain⟨h7,hh7⟩:=Qa hlt;rw [Q.drop_of hh7,Z18_q7];refine QT hlt ?_;refine Q.bindP hh7 fun x15 hx_x15=>?_;refine Q.condP ?_ ?_
   ·all_goals exact hret _
   all_goals exact ih7 _ _ ⟨by omega,by omega⟩
  rw [dL (by omega),Z18_q7];refine QF hlt ?_;exact hend n7 s11_8 y9_l0
def Z18_q (a0:Z6) (a1:Bs):(Z3×Bool):=on (Z18_q7 a1 a0.FFrags.l ) fun o7=>match o7 with|Sum.inl _=>(on (()) fun _=>((Z3.mk ([]:Bs) ([]:Bs) (Sl.nil:Sl TSel)),false))|Sum.inr e7=>(e7)
theorem Z18_eq (a0:Z6) (a1:Bs):Z18 a0 a1=some (Z18_q a0 a1):=by
 unfold Z18 Z18_q;refine Q.wrapPP fun Kb7 hKb7=>?_;refine Z18_l7_qe  Kb7 ?_ ?_ _ _ _ ⟨Nat.succ_pos _,by omega⟩
 ·intro n7 s11_8 y9_l0;refine Qe (hKb7 _) ?_;try dsimp only
  refine Q.wrapPP fun Kj2 hKj2=>?_;have hj2:∀(y3_l0:Z3),Z18_j2  y3_l0=Kj2 ():=by
   intro y3_l0;refine Qe (hKj2 _) ?_;unfold Z18_j2;all_goals rfl
  all_goals exact hj2 _
 intro e7;refine Qe (hKb7 _) ?_;try dsimp only
 all_goals rfl
def Z149_q15 (k_rec_56:Z7->(Sl Bs)->Option (Sl Bs)):List Z7->(Sl Bs)->Option ((Sl Bs))
 | [],s1_16=>some s1_16
 | h15::r15,s1_16=>on (h15) fun x23=>(k_rec_56 x23 s1_16).bind fun x24=>Z149_q15 k_rec_56 (r15) x24
theorem Z149_l15_qe {a0:Z7}{k_rec_56:Z7->(Sl Bs)->Option (Sl Bs)}  (Kb15:((Sl Bs))->Option (Sl Bs)) (hend:∀(n15:Nat) (s1_16:(Sl Bs)) (s22_17:Nat),Z149_j2   s1_16=Kb15 s1_16):∀(n15:Nat) (s1_16:(Sl Bs)) (s22_17:Nat),(0<n15/\a0.FItems.l.length<s22_17+n15)->Z149_l15 a0 k_rec_56 n15 s1_16 s22_17=Option.bind (Z149_q15 k_rec_56 (a0.FItems.l.drop s22_17) s1_16) Kb15:=by
 intro n15;induction n15 with
 | zero=>intro s1_16 s22_17 hn; exact absurd hn.1 (by omega)
 | succ n15 ih15 =>
  intro s1_16 s22_17 hn;rw [Z149_l15];by_cases hlt:s22_17<a0.FItems.l.length
  ·obtain⟨h15,hh15⟩:=Qa hlt;rw [Q.drop_of hh15,Z149_q15];refine QT hlt ?_;refine Q.bindPO hh15 fun x23 hx_x23=>?_;refine Q.bindO rfl fun x24=>?_;all_goals exact ih15 _ _ ⟨by omega,by omega⟩
  rw [dL (by omega),Z149_q15];refine QF hlt ?_;exact hend n15 s1_16 s22_17
def Z149_qn:Nat->Z7->(Sl Bs)->Option (Sl Bs)
 | 0,_,_=>none
 | n+1,a0,a1=>bif (decide (a0.FKind=(7:Int))) then((appC 16 a1 (⟨false,[a0.FText]⟩:Sl Bs)).bind fun x9=>some x9) else(on (bif (decide (a0.FKind=(5:Int))) then((decide (a0.FKind=(5:Int)))) else((decide (a0.FKind=(6:Int))))) fun s16_11=>Option.bind (bif s16_11 then(Option.bind (Z149_q15 (Z149_qn n) a0.FItems.l a1) fun s1_16=>some s1_16) else(some a1)) fun s1_3=>some s1_3)
theorem Z149_qall:∀n:Nat,Z149_n n=Z149_qn n:=by
 intro n;induction n with
 | zero=>exact(by funext a0 a1; first|rfl|(rw [Z149_n,Z149_qn]))
 | succ n ih =>
  funext a0 a1
  refine Qs ?_;rw [Z149_n,Z149_qn];try rw [ih]
  refine Q.condO ?_ ?_
  ·refine Q.bindO rfl fun x9=>?_;all_goals rfl
  refine Q.wrapPO fun Kj10 hKj10=>?_;have hj10:∀(s16_11:Bool),Z149_j10 a0 a1 (Z149_qn n) s16_11=Kj10 s16_11:=by
   intro s16_11;refine Qe (hKj10 _) ?_;unfold Z149_j10;refine Q.wrapOO fun Kj2 hKj2=>?_;have hj2:∀(s1_3:(Sl Bs)),Z149_j2  s1_3=Kj2 s1_3:=by
    intro s1_3;refine Qe (hKj2 _) ?_;unfold Z149_j2;all_goals rfl
   refine Q.condO ?_ ?_
   ·refine Q.wrapOO fun Kb15 hKb15=>?_;refine Z149_l15_qe  Kb15 ?_ _ _ _ ⟨Nat.succ_pos _,by omega⟩;intro n15 s1_16 s22_17;refine Qe (hKb15 _) ?_;all_goals exact hj2 _
   all_goals exact hj2 _
  refine Q.condP ?_ ?_
  ·all_goals exact hj10 _
  all_goals exact hj10 _
def Z149_q (a0:Z7) (a1:(Sl Bs)):Option (Sl Bs):=Z149_qn F0 a0 a1
theorem Z149_eq (a0:Z7) (a1:(Sl Bs)):Z149 a0 a1=Z149_q a0 a1:=by
 unfold Z149 Z149_q; rw [(Z149_qall F0)]
end Go.Proofs

namespace Go.Proofs
open Go Go.Ab
def Z150_q63 :List TArg->(Sl Bs)->Option ((Sl Bs))
 | [],s3_64=>some s3_64
 | h63::r63,s3_64=>on (h63) fun x71=>(Z149_q x71.FValue s3_64).bind fun x72=>Z150_q63  (r63) x72
theorem Z150_l63_qe {a0:Z6}{s22_10:Nat}{y11_c2:(List Bs)}{x19:TSel}{k_next_8:(Sl Bs)->Nat->(List Bs)->Option ((Sl Bs)×(List Bs))}{k_rec_23:Z6->(Sl TSel)->(List Bs)->(Sl Bs)->Option ((Sl Bs)×(List Bs))}  (Kb63:((Sl Bs))->Option ((Sl Bs)×(List Bs))) (hend:∀(n63:Nat) (s3_64:(Sl Bs)) (s29_65:Nat),Z150_j20 a0 s22_10 y11_c2 x19 k_next_8 k_rec_23 s3_64=Kb63 s3_64):∀(n63:Nat) (s3_64:(Sl Bs)) (s29_65:Nat),(0<n63/\x19.FArgs.l.length<s29_65+n63)->Z150_l63 a0 s22_10 y11_c2 x19 k_next_8 k_rec_23 n63 s3_64 s29_65=Option.bind (Z150_q63  (x19.FArgs.l.drop s29_65) s3_64) Kb63:=by
 intro n63;induction n63 with
 | zero=>intro s3_64 s29_65 hn; exact absurd hn.1 (by omega)
 | succ n63 ih63 =>
  intro s3_64 s29_65 hn;rw [Z150_l63];by_cases hlt:s29_65<x19.FArgs.l.length
  ·obtain⟨h63,hh63⟩:=Qa hlt;rw [Q.drop_of hh63,Z150_q63];refine QT hlt ?_;refine Q.bindPO hh63 fun x71 hx_x71=>?_;refine Q.bindO (Z149_eq _ _) fun x72=>?_;all_goals exact ih63 _ _ ⟨by omega,by omega⟩
  rw [dL (by omega),Z150_q63];refine QF hlt ?_;exact hend n63 s3_64 s29_65
def Z150_q51 :List TArg->(Sl Bs)->Option ((Sl Bs))
 | [],s3_52=>some s3_52
 | h51::r51,s3_52=>on (h51) fun x59=>(Z149_q x59.FValue s3_52).bind fun x60=>Z150_q51  (r51) x60
theorem Z150_l51_qe {s41_41:Nat}{x48:TDir}{k_next_39:(Sl Bs)->Nat->Option ((Sl Bs)×(List Bs))}  (Kb51:((Sl Bs))->Option ((Sl Bs)×(List Bs))) (hend:∀(n51:Nat) (s3_52:(Sl Bs)) (s48_53:Nat),Z150_j45 s41_41 k_next_39 s3_52=Kb51 s3_52):∀(n51:Nat) (s3_52:(Sl Bs)) (s48_53:Nat),(0<n51/\x48.FArgs.l.length<s48_53+n51)->Z150_l51 s41_41 x48 k_next_39 n51 s3_52 s48_53=Option.bind (Z150_q51  (x48.FArgs.l.drop s48_53) s3_52) Kb51:=by
 intro n51;induction n51 with
 | zero=>intro s3_52 s48_53 hn; exact absurd hn.1 (by omega)
 | succ n51 ih51 =>
  intro s3_52 s48_53 hn;rw [Z150_l51];by_cases hlt:s48_53<x48.FArgs.l.length
  ·obtain⟨h51,hh51⟩:=Qa hlt;rw [Q.drop_of hh51,Z150_q51];refine QT hlt ?_;refine Q.bindPO hh51 fun x59 hx_x59=>?_;refine Q.bindO (Z149_eq _ _) fun x60=>?_;all_goals exact ih51 _ _ ⟨by omega,by omega⟩
  rw [dL (by omega),Z150_q51];refine QF hlt ?_;exact hend n51 s3_52 s48_53
def Z150_q39 :List TDir->(Sl Bs)->Option ((Sl Bs))
 | [],s3_40=>some s3_40
 | h39::r39,s3_40=>on (h39) fun x48=>Option.bind (Z150_q51  x48.FArgs.l s3_40) fun s3_52=>on (s3_52) fun s3_46=>Z150_q39  (r39) s3_46
theorem Z150_l39_qe {a0:Z6}{s22_10:Nat}{y11_c2:(List Bs)}{x19:TSel}{k_next_8:(Sl Bs)->Nat->(List Bs)->Option ((Sl Bs)×(List Bs))}{k_rec_23:Z6->(Sl TSel)->(List Bs)->(Sl Bs)->Option ((Sl Bs)×(List Bs))}  (Kb39:((Sl Bs))->Option ((Sl Bs)×(List Bs))) (hend:∀(n39:Nat) (s3_40:(Sl Bs)) (s41_41:Nat),Z150_j22 a0 s22_10 y11_c2 x19 k_next_8 k_rec_23 s3_40=Kb39 s3_40):∀(n39:Nat) (s3_40:(Sl Bs)) (s41_41:Nat),(0<n39/\x19.FDirs.l.length<s41_41+n39)->Z150_l39 a0 s22_10 y11_c2 x19 k_next_8 k_rec_23 n39 s3_40 s41_41=Option.bind (Z150_q39  (x19.FDirs.l.drop s41_41) s3_40) Kb39:=by
 intro n39;induction n39 with
 | zero=>intro s3_40 s41_41 hn; exact absurd hn.1 (by omega)
 | succ n39 ih39 =>
  intro s3_40 s41_41 hn;rw [Z150_l39];by_cases hlt:s41_41<x19.FDirs.l.length
  ·obtain⟨h39,hh39⟩:=Qa hlt;rw [Q.drop_of hh39,Z150_q39];refine QT hlt ?_;refine Q.bindPO hh39 fun x48 hx_x48=>?_;refine Q.wrapOO fun Kb51 hKb51=>?_;refine Z150_l51_qe  Kb51 ?_ _ _ _ ⟨Nat.succ_pos _,by omega⟩;intro n51 s3_52 s48_53;refine Qe (hKb51 _) ?_;refine Q.wrapPO fun Kj45 hKj45=>?_;have hj45:∀(s3_46:(Sl Bs)),Z150_j45 s41_41 (Z150_l39 a0 s22_10 y11_c2 x19 k_next_8 k_rec_23 n39) s3_46=Kj45 s3_46:=by
    intro s3_46;refine Qe (hKj45 _) ?_;unfold Z150_j45;all_goals exact ih39 _ _ ⟨by omega,by omega⟩
   all_goals exact hj45 _
  rw [dL (by omega),Z150_q39];refine QF hlt ?_;exact hend n39 s3_40 s41_41
def Z150_q8 (a0:Z6) (k_rec_23:Z6->(Sl TSel)->(List Bs)->(Sl Bs)->Option ((Sl Bs)×(List Bs))):List TSel->(Sl Bs)->(List Bs)->Option (((Sl Bs)×(List Bs)))
 | [],s3_9,y11_c2=>some (s3_9,y11_c2)
 | h8::r8,s3_9,y11_c2=>on (h8) fun x19=>Option.bind (Z150_q63  x19.FArgs.l s3_9) fun s3_64=>on (s3_64) fun s3_21=>Option.bind (Z150_q39  x19.FDirs.l s3_21) fun s3_40=>on (s3_40) fun s3_23=>Option.bind (on (fun(s17_26:(Sl TSel)) (y27_c2:(List Bs))=>(k_rec_23 a0 s17_26 y27_c2 s3_23).bind fun x28=>some (x28.1,x28.2)) fun kj25=>bif (decide (x19.FKind=(2:Int))) then(on (Z18_q a0 x19.FName) fun x32=>bif ((!x32.2)||(y11_c2.contains x19.FName)) then(some (s3_23,y11_c2)) else(kj25 x32.1.FSels (insS y11_c2 x19.FName))) else(kj25 x19.FSels y11_c2)) fun z15=>Z150_q8 a0 k_rec_23 (r8) z15.1 z15.2
theorem Z150_l8_qe {a0:Z6}{a1:(Sl TSel)}{k_rec_23:Z6->(Sl TSel)->(List Bs)->(Sl Bs)->Option ((Sl Bs)×(List Bs))}  (Kb8:(((Sl Bs)×(List Bs)))->Option ((Sl Bs)×(List Bs))) (hend:∀(n8:Nat) (s3_9:(Sl Bs)) (s22_10:Nat) (y11_c2:(List Bs)),Z150_j2   s3_9 y11_c2=Kb8 (s3_9,y11_c2)):∀(n8:Nat) (s3_9:(Sl Bs)) (s22_10:Nat) (y11_c2:(List Bs)),(0<n8/\a1.l.length<s22_10+n8)->Z150_l8 a0 a1 k_rec_23 n8 s3_9 s22_10 y11_c2=Option.bind (Z150_q8 a0 k_rec_23 (a1.l.drop s22_10) s3_9 y11_c2) Kb8:=by
 intro n8;induction n8 with
 | zero=>intro s3_9 s22_10 y11_c2 hn; exact absurd hn.1 (by omega)
 | succ n8 ih8 =>
  intro s3_9 s22_10 y11_c2 hn;rw [Z150_l8];by_cases hlt:s22_10<a1.l.length
  ·obtain⟨h8,hh8⟩:=Qa hlt;rw [Q.drop_of hh8,Z150_q8];refine QT hlt ?_;refine Q.bindPO hh8 fun x19 hx_x19=>?_;refine Q.wrapOO fun Kb63 hKb63=>?_;refine Z150_l63_qe  Kb63 ?_ _ _ _ ⟨Nat.succ_pos _,by omega⟩;intro n63 s3_64 s29_65;refine Qe (hKb63 _) ?_;refine Q.wrapPO fun Kj20 hKj20=>?_;have hj20:∀(s3_21:(Sl Bs)),Z150_j20 a0 s22_10 y11_c2 x19 (Z150_l8 a0 a1 k_rec_23 n8) k_rec_23 s3_21=Kj20 s3_21:=by
    intro s3_21;refine Qe (hKj20 _) ?_;unfold Z150_j20;refine Q.wrapOO fun Kb39 hKb39=>?_;refine Z150_l39_qe  Kb39 ?_ _ _ _ ⟨Nat.succ_pos _,by omega⟩;intro n39 s3_40 s41_41;refine Qe (hKb39 _) ?_;refine Q.wrapPO fun Kj22 hKj22=>?_;have hj22:∀(s3_23:(Sl Bs)),Z150_j22 a0 s22_10 y11_c2 x19 (Z150_l8 a0 a1 k_rec_23 n8) k_rec_23 s3_23=Kj22 s3_23:=by
     intro s3_23;refine Qe (hKj22 _) ?_;unfold Z150_j22;refine Q.wrapOO fun Kj15 hKj15=>?_;have hj15:∀(s3_16:(Sl Bs)) (y17_c2:(List Bs)),Z150_j15 s22_10 (Z150_l8 a0 a1 k_rec_23 n8) s3_16 y17_c2=Kj15 (s3_16,y17_c2):=by
      intro s3_16 y17_c2;refine Qe (hKj15 _) ?_;try dsimp only
      unfold Z150_j15;all_goals exact ih8 _ _ _ ⟨by omega,by omega⟩
     refine Q.mixO fun kj25 hkj25=>?_;have hj25:∀(s17_26:(Sl TSel)) (y27_c2:(List Bs)),Z150_j25 a0 s22_10 s3_23 (Z150_l8 a0 a1 k_rec_23 n8) k_rec_23 s17_26 y27_c2=Option.bind (kj25 s17_26 y27_c2) Kj15:=by
      intro s17_26 y27_c2;unfold Z150_j25;rw [hkj25];try dsimp only
      refine Q.bindO rfl fun x28=>?_;all_goals exact hj15 _ _
     refine Q.condO ?_ ?_
     ·refine Q.bindPO (Z18_eq _ _) fun x32 hx_x32=>?_;refine Q.condO ?_ ?_
      ·all_goals exact hj15 _ _
      all_goals exact hj25 _ _
     all_goals exact hj25 _ _
    all_goals exact hj22 _
   all_goals exact hj20 _
  rw [dL (by omega),Z150_q8];refine QF hlt ?_;exact hend n8 s3_9 s22_10 y11_c2
def Z150_qn:Nat->Z6->(Sl TSel)->(List Bs)->(Sl Bs)->Option ((Sl Bs)×(List Bs))
 | 0,_,_,_,_=>none
 | n+1,a0,a1,a2,a3=>Option.bind (Z150_q8 a0 (Z150_qn n) a1.l a3 a2) fun z8=>on ((z8.1,z8.2)) fun z2=>some (z2.1,z2.2)
theorem Z150_qall:∀n:Nat,Z150_n n=Z150_qn n:=by
 intro n;induction n with
 | zero=>exact(by funext a0 a1 a2 a3; first|rfl|(rw [Z150_n,Z150_qn]))
 | succ n ih =>
  funext a0 a1 a2 a3
  refine Qs ?_;rw [Z150_n,Z150_qn];try rw [ih]
  refine Q.wrapOO fun Kb8 hKb8=>?_;refine Z150_l8_qe  Kb8 ?_ _ _ _ _ ⟨Nat.succ_pos _,by omega⟩;intro n8 s3_9 s22_10 y11_c2;refine Qe (hKb8 _) ?_;try dsimp only
  refine Q.wrapPO fun Kj2 hKj2=>?_;have hj2:∀(s3_3:(Sl Bs)) (y4_c2:(List Bs)),Z150_j2  s3_3 y4_c2=Kj2 (s3_3,y4_c2):=by
   intro s3_3 y4_c2;refine Qe (hKj2 _) ?_;try dsimp only
   unfold Z150_j2;all_goals rfl
  all_goals exact hj2 _ _
def Z150_q (a0:Z6) (a1:(Sl TSel)) (a2:(List Bs)) (a3:(Sl Bs)):Option ((Sl Bs)×(List Bs)):=Z150_qn F0 a0 a1 a2 a3
theorem Z150_eq (a0:Z6) (a1:(Sl TSel)) (a2:(List Bs)) (a3:(Sl Bs)):Z150 a0 a1 a2 a3=Z150_q a0 a1 a2 a3:=by
 unfold Z150 Z150_q; rw [(Z150_qall F0)]
def Z121_q6 (a1:Bs):List Bs->Nat->Unit ⊕ Int
 | [],s8_7=>Sum.inl ()
 | h6::r6,s8_7=>on (h6) fun x14=>bif ((a1==x14)) then(Sum.inr ((s8_7:Nat):Int)) else(Z121_q6 a1 (r6) (s8_7+1) )
theorem Z121_l6_qe {a0:(Sl Bs)}{a1:Bs}  (Kb6:(Unit ⊕ Int)->Option Int) (hend:∀(n6:Nat) (s8_7:Nat),Z121_j2   =Kb6 (Sum.inl ())) (hret:∀e:Int,some e=Kb6 (Sum.inr e)):∀(n6:Nat) (s8_7:Nat),(0<n6/\a0.l.length<s8_7+n6)->Z121_l6 a0 a1 n6 s8_7=Kb6 (Z121_q6 a1 (a0.l.drop s8_7) s8_7 ):=by
 intro n6;induction n6 with
 | zero=>intro s8_7 hn; exact absurd hn.1 (by omega)
 | succ n6 ih6 =>
  intro s8_7 hn;rw [Z121_l6];by_cases hlt:s8_7<a0.l.length
  ·obtain⟨h6,hh6⟩:=Qa hlt;rw [Q.drop_of hh6,Z121_q6];refine QT hlt ?_;refine Q.bindP hh6 fun x14 hx_x14=>?_;refine Q.condP ?_ ?_
   ·all_goals exact hret _
   all_goals exact ih6 _ ⟨by omega,by omega⟩
  rw [dL (by omega),Z121_q6];refine QF hlt ?_;exact hend n6 s8_7
def Z121_q (a0:(Sl Bs)) (a1:Bs):Int:=on (Z121_q6 a1 a0.l 0 ) fun o6=>match o6 with|Sum.inl _=>(on (()) fun _=>(-1:Int))|Sum.inr e6=>(e6)
theorem Z121_eq (a0:(Sl Bs)) (a1:Bs):Z121 a0 a1=some (Z121_q a0 a1):=by
 unfold Z121 Z121_q;refine Q.wrapPP fun Kb6 hKb6=>?_;refine Z121_l6_qe  Kb6 ?_ ?_ _ _ ⟨Nat.succ_pos _,by omega⟩
 ·intro n6 s8_7;refine Qe (hKb6 _) ?_;try dsimp only
  refine Q.wrapPP fun Kj2 hKj2=>?_;have hj2:Z121_j2  =Kj2 ():=by
   refine Qe (hKj2 _) ?_;unfold Z121_j2;all_goals rfl
  all_goals exact hj2
 intro e6;refine Qe (hKb6 _) ?_;try dsimp only
 all_goals rfl
def Z116_q (a0:(Sl Bs)) (a1:Bs):Bool:=on (Z121_q a0 a1) fun x3=>(decide ((0:Int)<=x3))
theorem Z116_eq (a0:(Sl Bs)) (a1:Bs):Z116 a0 a1=some (Z116_q a0 a1):=by
 unfold Z116 Z116_q;refine Q.bindP (Z121_eq _ _) fun x3 hx_x3=>?_;all_goals rfl
def Z141_q (a0:Z6) (a1:Int):Option (Sl Bs):=Z141 a0 a1
theorem Z141_eq (a0:Z6) (a1:Int):Z141 a0 a1=Z141_q a0 a1:=rfl
def Z119_q6 (a1:(TVar->Bool)):List TVar->Nat->Unit ⊕ Int
 | [],s8_7=>Sum.inl ()
 | h6::r6,s8_7=>on (h6) fun x14=>on (a1 x14) fun x15=>bif x15 then(Sum.inr ((s8_7:Nat):Int)) else(Z119_q6 a1 (r6) (s8_7+1) )
theorem Z119_l6_qe {a0:(Sl TVar)}{a1:(TVar->Bool)}  (Kb6:(Unit ⊕ Int)->Option Int) (hend:∀(n6:Nat) (s8_7:Nat),Z119_j2   =Kb6 (Sum.inl ())) (hret:∀e:Int,some e=Kb6 (Sum.inr e)):∀(n6:Nat) (s8_7:Nat),(0<n6/\a0.l.length<s8_7+n6)->Z119_l6 a0 (fun y0=>some (a1 y0)) n6 s8_7=Kb6 (Z119_q6 a1 (a0.l.drop s8_7) s8_7 ):=by
 intro n6;induction n6 with
 | zero=>intro s8_7 hn; exact absurd hn.1 (by omega)
 | succ n6 ih6 =>
  intro s8_7 hn;rw [Z119_l6];by_cases hlt:s8_7<a0.l.length
  ·obtain⟨h6,hh6⟩:=Qa hlt;rw [Q.drop_of hh6,Z119_q6];refine QT hlt ?_;refine Q.bindP hh6 fun x14 hx_x14=>?_;refine Q.bindP rfl fun x15 hx_x15=>?_;refine Q.condP ?_ ?_
   ·all_goals exact hret _
   all_goals exact ih6 _ ⟨by omega,by omega⟩
  rw [dL (by omega),Z119_q6];refine QF hlt ?_;exact hend n6 s8_7
def Z119_q (a0:(Sl TVar)) (a1:(TVar->Bool)):Int:=on (Z119_q6 a1 a0.l 0 ) fun o6=>match o6 with|Sum.inl _=>(on (()) fun _=>(-1:Int))|Sum.inr e6=>(e6)
theorem Z119_eq (a0:(Sl TVar)) (a1:(TVar->Bool)):Z119 a0 (fun y0=>some (a1 y0))=some (Z119_q a0 a1):=by
 unfold Z119 Z119_q;refine Q.wrapPP fun Kb6 hKb6=>?_;refine Z119_l6_qe  Kb6 ?_ ?_ _ _ ⟨Nat.succ_pos _,by omega⟩
 ·intro n6 s8_7;refine Qe (hKb6 _) ?_;try dsimp only
  refine Q.wrapPP fun Kj2 hKj2=>?_;have hj2:Z119_j2  =Kj2 ():=by
   refine Qe (hKj2 _) ?_;unfold Z119_j2;all_goals rfl
  all_goals exact hj2
 intro e6;refine Qe (hKb6 _) ?_;try dsimp only
 all_goals rfl
def Z114_q (a0:(Sl TVar)) (a1:(TVar->Bool)):Bool:=on (Z119_q a0 a1) fun x3=>(decide ((0:Int)<=x3))
theorem Z114_eq (a0:(Sl TVar)) (a1:(TVar->Bool)):Z114 a0 (fun y0=>some (a1 y0))=some (Z114_q a0 a1):=by
 unfold Z114 Z114_q;refine Q.bindP (Z119_eq _ _) fun x3 hx_x3=>?_;all_goals rfl
def Z144_q (a0:TVar) (a1:TVar):Bool:=((a0.FName==a1.FName))
theorem Z144_eq (a0:TVar) (a1:TVar):Z144 a0 a1=some (Z144_q a0 a1):=by
 unfold Z144 Z144_q;all_goals rfl
def Z142_q (a0:Z8) (a1:Bool) (a2:Int) (a3:Bs):Option Z8:=bif a1 then((appC 24 a0.Fout (⟨false,[(Z1.mk a2 a3)]⟩:Sl Z1)).bind fun x3=>some (Z8.mk a0.Fd a0.Fvars x3)) else(some a0)
theorem Z142_eq (a0:Z8) (a1:Bool) (a2:Int) (a3:Bs):Z142 a0 a1 a2 a3=Z142_q a0 a1 a2 a3:=by
 unfold Z142 Z142_q;refine Qs ?_;refine Q.condO ?_ ?_
 ·refine Q.bindO rfl fun x3=>?_;all_goals rfl
 all_goals rfl
def Z105_q7 (a1:Bs):List TDef->Unit ⊕ ((TDef×Bool))
 | []=>Sum.inl ()
 | h7::r7=>on (h7) fun x15=>bif ((x15.FName==a1)) then(Sum.inr (x15,true)) else(Z105_q7 a1 (r7) )
theorem Z105_l7_qe {a0:TDoc}{a1:Bs}  (Kb7:(Unit ⊕ ((TDef×Bool)))->Option (TDef×Bool)) (hend:∀(n7:Nat) (s11_8:Nat) (y9_l0:TDef),Z105_j2   y9_l0=Kb7 (Sum.inl ())) (hret:∀e:(TDef×Bool),some e=Kb7 (Sum.inr e)):∀(n7:Nat) (s11_8:Nat) (y9_l0:TDef),(0<n7/\a0.FDefs.l.length<s11_8+n7)->Z105_l7 a0 a1 n7 s11_8 y9_l0=Kb7 (Z105_q7 a1 (a0.FDefs.l.drop s11_8) ):=by
 intro n7;induction n7 with
 | zero=>intro s11_8 y9_l0 hn; exact absurd hn.1 (by omega)
 | succ n7 ih7 =>
  intro s11_8 y9_l0 hn;rw [Z105_l7];by_cases hlt:s11_8<a0.FDefs.l.length
  ·obtain⟨h7,hh7⟩:=Qa hlt;rw [Q.drop_of hh7,Z105_q7];refine QT hlt ?_;refine Q.bindP hh7 fun x15 hx_x15=>?_;refine Q.condP ?_ ?_
   ·all_goals exact hret _
   all_goals exact ih7 _ _ ⟨by omega,by omega⟩
  rw [dL (by omega),Z105_q7];refine QF hlt ?_;exact hend n7 s11_8 y9_l0
def Z105_q (a0:TDoc) (a1:Bs):(TDef×Bool):=on (Z105_q7 a1 a0.FDefs.l ) fun o7=>match o7 with|Sum.inl _=>(on (()) fun _=>((TDef.mk (0:Int) ([]:Bs) (Sl.nil:Sl Bs) (Sl.nil:Sl TDir) (Sl.nil:Sl Z2) (Sl.nil:Sl Z5) (Sl.nil:Sl Z4)),false))|Sum.inr e7=>(e7)
theorem Z105_eq (a0:TDoc) (a1:Bs):Z105 a0 a1=some (Z105_q a0 a1):=by
 unfold Z105 Z105_q;refine Q.wrapPP fun Kb7 hKb7=>?_;refine Z105_l7_qe  Kb7 ?_ ?_ _ _ _ ⟨Nat.succ_pos _,by omega⟩
 ·intro n7 s11_8 y9_l0;refine Qe (hKb7 _) ?_;try dsimp only
  refine Q.wrapPP fun Kj2 hKj2=>?_;have hj2:∀(y3_l0:TDef),Z105_j2  y3_l0=Kj2 ():=by
   intro y3_l0;refine Qe (hKj2 _) ?_;unfold Z105_j2;all_goals rfl
  all_goals exact hj2 _
 intro e7;refine Qe (hKb7 _) ?_;try dsimp only
 all_goals rfl
def Z110_q (a0:Bs):Bool:=(((((a0==([73,110,116]:Bs)))||((a0==([83,116,114,105,110,103]:Bs))))||((a0==([66,111,111,108,101,97,110]:Bs))))||((a0==([73,68]:Bs))))
theorem Z110_eq (a0:Bs):Z110 a0=some (Z110_q a0):=by
 unfold Z110 Z110_q;all_goals rfl
def Z111_q (a0:TDoc) (a1:Bs):Int:=on (Z105_q a0 a1) fun x3=>x3.1.FKind
theorem Z111_eq (a0:TDoc) (a1:Bs):Z111 a0 a1=some (Z111_q a0 a1):=by
 unfold Z111 Z111_q;refine Q.bindP (Z105_eq _ _) fun x3 hx_x3=>?_;all_goals rfl
def Z108_q (a0:TDoc) (a1:Bs):Bool:=on (Z110_q a1) fun x3=>on (bif !x3 then Z111_q a0 a1 else(0:Int)) fun x4=>(x3||(decide (x4=(4:Int))))
theorem Z108_eq (a0:TDoc) (a1:Bs):Z108 a0 a1=some (Z108_q a0 a1):=by
 unfold Z108 Z108_q;refine Q.bindP (Z110_eq _) fun x3 hx_x3=>?_;refine Q.guardP (Z111_eq _ _) fun x4 hx_x4=>?_;all_goals rfl
def Z107_q (a0:TDoc) (a1:Bs):Bool:=on (Z108_q a0 a1) fun x3=>on (bif !x3 then Z111_q a0 a1 else(0:Int)) fun x4=>(x3||(decide (x4=(5:Int))))
theorem Z107_eq (a0:TDoc) (a1:Bs):Z107 a0 a1=some (Z107_q a0 a1):=by
 unfold Z107 Z107_q;refine Q.bindP (Z108_eq _ _) fun x3 hx_x3=>?_;refine Q.guardP (Z111_eq _ _) fun x4 hx_x4=>?_;all_goals rfl
def Z113_q (a0:(Sl Bs)):Option (Sl Bs):=bif a0.nl then(some (Sl.nil:Sl Bs)) else((appC 16 (⟨false,[]⟩:Sl Bs) a0).bind fun x7=>some x7)
theorem Z113_eq (a0:(Sl Bs)):Z113 a0=Z113_q a0:=by
 unfold Z113 Z113_q;refine Qs ?_;refine Q.condO ?_ ?_
 ·all_goals rfl
 refine Q.bindO rfl fun x7=>?_;all_goals rfl
def Z138_q8 (k_rec_113:Z7->Option Z7):List Z7->(Sl Z7)->Option ((Sl Z7))
 | [],s3_9=>some s3_9
 | h8::r8,s3_9=>on (h8) fun x16=>(k_rec_113 x16).bind fun x17=>(appC 80 s3_9 (⟨false,[x17]⟩:Sl Z7)).bind fun x18=>Z138_q8 k_rec_113 (r8) x18
theorem Z138_l8_qe {a0:(Sl Z7)}{k_rec_113:Z7->Option Z7}  (Kb8:((Sl Z7))->Option (Sl Z7)) (hend:∀(n8:Nat) (s3_9:(Sl Z7)) (s8_10:Nat),Z138_j3   s3_9=Kb8 s3_9):∀(n8:Nat) (s3_9:(Sl Z7)) (s8_10:Nat),(0<n8/\a0.l.length<s8_10+n8)->Z138_l8 a0 k_rec_113 n8 s3_9 s8_10=Option.bind (Z138_q8 k_rec_113 (a0.l.drop s8_10) s3_9) Kb8:=by
 intro n8;induction n8 with
 | zero=>intro s3_9 s8_10 hn; exact absurd hn.1 (by omega)
 | succ n8 ih8 =>
  intro s3_9 s8_10 hn;rw [Z138_l8];by_cases hlt:s8_10<a0.l.length
  ·obtain⟨h8,hh8⟩:=Qa hlt;rw [Q.drop_of hh8,Z138_q8];refine QT hlt ?_;refine Q.bindPO hh8 fun x16 hx_x16=>?_;refine Q.bindO rfl fun x17=>?_;refine Q.bindO rfl fun x18=>?_;all_goals exact ih8 _ _ ⟨by omega,by omega⟩
  rw [dL (by omega),Z138_q8];refine QF hlt ?_;exact hend n8 s3_9 s8_10
mutual
def value_Copy_qn:Nat->Z7->Option Z7
 | 0,_=>none
 | n+1,a0=>((Z138_qn n) a0.FItems).bind fun x3=>(Z113_q a0.FKeys).bind fun x5=>some (Z7.mk a0.FKind a0.FInt a0.FText x3.nl x3.l x5)
def Z138_qn:Nat->(Sl Z7)->Option (Sl Z7)
 | 0,_=>none
 | n+1,a0=>Option.bind (Z138_q8 (value_Copy_qn n) a0.l (Sl.nil:Sl Z7)) fun s3_9=>on (s3_9) fun s3_4=>some s3_4
end
theorem value_Copy_qall:∀n:Nat,value_Copy_n n=value_Copy_qn n/\Z138_n n=Z138_qn n:=by
 intro n;induction n with
 | zero=>exact⟨(by funext a0; first|rfl|(rw [value_Copy_n,value_Copy_qn])),(by funext a0; first|rfl|(rw [Z138_n,Z138_qn]))⟩
 | succ n ih =>
  refine⟨?_, ?_⟩
  ·funext a0
   refine Qs ?_;rw [value_Copy_n,value_Copy_qn];try rw [ih.1]
   try rw [ih.2]
   refine Q.bindO rfl fun x3=>?_;refine Q.bindO (Z113_eq _) fun x5=>?_;all_goals rfl
  funext a0
  refine Qs ?_;rw [Z138_n,Z138_qn];try rw [ih.1]
  try rw [ih.2]
  refine Q.wrapOO fun Kb8 hKb8=>?_;refine Z138_l8_qe  Kb8 ?_ _ _ _ ⟨Nat.succ_pos _,by omega⟩;intro n8 s3_9 s8_10;refine Qe (hKb8 _) ?_;refine Q.wrapPO fun Kj3 hKj3=>?_;have hj3:∀(s3_4:(Sl Z7)),Z138_j3  s3_4=Kj3 s3_4:=by
   intro s3_4;refine Qe (hKj3 _) ?_;unfold Z138_j3;all_goals rfl
  all_goals exact hj3 _
def value_Copy_q (a0:Z7):Option Z7:=value_Copy_qn F0 a0
theorem value_Copy_eq (a0:Z7):value_Copy a0=value_Copy_q a0:=by
 unfold value_Copy value_Copy_q; rw [(value_Copy_qall F0).1]
def Z136_q (a0:Z7) (a1:Bs):Option (Z7×Bool):=on (Z121_q a0.FKeys a1) fun x3=>bif (((!decide (a0.FKind=(6:Int)))||(decide (x3<(0:Int))))||(decide (((a0.FItems.l.length:Nat):Int)<=x3))) then(some ((Z7.mk (0:Int) (0:Int) ([]:Bs) true ([]) (Sl.nil:Sl Bs)),false)) else((idxC a0.FItems.l x3).bind fun x9=>(value_Copy_q x9).bind fun x10=>some (x10,true))
theorem Z136_eq (a0:Z7) (a1:Bs):Z136 a0 a1=Z136_q a0 a1:=by
 unfold Z136 Z136_q;refine Qs ?_;refine Q.bindPO (Z121_eq _ _) fun x3 hx_x3=>?_;refine Q.condO ?_ ?_
 ·all_goals rfl
 refine Q.bindO rfl fun x9=>?_;refine Q.bindO (value_Copy_eq _) fun x10=>?_;all_goals rfl
def Z13_q (a0:Z0) (a1:Z7):Option Bool:=bif ((!decide (a1.FKind=(7:Int)))||(!a0.Fliteral)) then(some false) else((Z136_q a0.Fvars a1.FText).bind fun x7=>some (!x7.2))
theorem Z13_eq (a0:Z0) (a1:Z7):Z13 a0 a1=Z13_q a0 a1:=by
 unfold Z13 Z13_q;refine Qs ?_;refine Q.condO ?_ ?_
 ·all_goals rfl
 refine Q.bindO (Z136_eq _ _) fun x7=>?_;all_goals rfl
def Z17_q (a0:Z7) (a1:Int):Option (Z7×Int):=bif (!decide (a1=(0:Int))) then(some ((Z7.mk (0:Int) (0:Int) ([]:Bs) true ([]) (Sl.nil:Sl Bs)),a1)) else((value_Copy_q a0).bind fun x7=>some (x7,(0:Int)))
theorem Z17_eq (a0:Z7) (a1:Int):Z17 a0 a1=Z17_q a0 a1:=by
 unfold Z17 Z17_q;refine Qs ?_;refine Q.condO ?_ ?_
 ·all_goals rfl
 refine Q.bindO (value_Copy_eq _) fun x7=>?_;all_goals rfl
def Z10_q (a0:Z0) (a1:Int):Option (Int×Z0):=bif (decide ((24:Int)<a1)) then(some ((5:Int),a0)) else((addC a0.Fnodes (1:Int)).bind fun x7=>bif (decide ((4096:Int)<x7)) then(some ((4:Int),(Z0.mk a0.Fd a0.Fvars a0.Fliteral x7))) else(some ((0:Int),(Z0.mk a0.Fd a0.Fvars a0.Fliteral x7))))
theorem Z10_eq (a0:Z0) (a1:Int):Z10 a0 a1=Z10_q a0 a1:=by
 unfold Z10 Z10_q;refine Qs ?_;refine Q.condO ?_ ?_
 ·all_goals rfl
 refine Q.bindO rfl fun x7=>?_;refine Q.condO ?_ ?_
 ·all_goals rfl
 all_goals rfl
def Z16_q13 (a2:Int) (k_rec_114:Z0->Z7->Int->Option (Int×Z0)):List Z7->Z0->Option (Z0 ⊕ ((Int×Z0)))
 | [],y15_c0=>some (Sum.inl y15_c0)
 | h13::r13,y15_c0=>on (h13) fun x21=>(addC a2 (1:Int)).bind fun x23=>(k_rec_114 y15_c0 x21 x23).bind fun x24=>bif (!decide (x24.1=(0:Int))) then(some (Sum.inr (x24.1,x24.2))) else(Z16_q13 a2 k_rec_114 (r13) x24.2)
theorem Z16_l13_qe {a1:Z7}{a2:Int}{k_rec_114:Z0->Z7->Int->Option (Int×Z0)}  (Kb13:(Z0 ⊕ ((Int×Z0)))->Option (Int×Z0)) (hend:∀(n13:Nat) (s20_14:Nat) (y15_c0:Z0),Z16_j8   y15_c0=Kb13 (Sum.inl y15_c0)) (hret:∀e:(Int×Z0),some e=Kb13 (Sum.inr e)):∀(n13:Nat) (s20_14:Nat) (y15_c0:Z0),(0<n13/\a1.FItems.l.length<s20_14+n13)->Z16_l13 a1 a2 k_rec_114 n13 s20_14 y15_c0=Option.bind (Z16_q13 a2 k_rec_114 (a1.FItems.l.drop s20_14) y15_c0) Kb13:=by
 intro n13;induction n13 with
 | zero=>intro s20_14 y15_c0 hn; exact absurd hn.1 (by omega)
 | succ n13 ih13 =>
  intro s20_14 y15_c0 hn;rw [Z16_l13];by_cases hlt:s20_14<a1.FItems.l.length
  ·obtain⟨h13,hh13⟩:=Qa hlt;rw [Q.drop_of hh13,Z16_q13];refine QT hlt ?_;refine Q.bindPO hh13 fun x21 hx_x21=>?_;refine Q.bindO rfl fun x23=>?_;refine Q.bindO rfl fun x24=>?_;refine Q.condO ?_ ?_
   ·all_goals exact hret _
   all_goals exact ih13 _ _ ⟨by omega,by omega⟩
  rw [dL (by omega),Z16_q13];refine QF hlt ?_;exact hend n13 s20_14 y15_c0
def Z16_qn:Nat->Z0->Z7->Int->Option (Int×Z0)
 | 0,_,_,_=>none
 | n+1,a0,a1,a2=>(Z10_q a0 a2).bind fun x4=>bif (!decide (x4.1=(0:Int))) then(some (x4.1,x4.2)) else(Option.bind (Z16_q13 a2 (Z16_qn n) a1.FItems.l x4.2) fun o13=>match o13 with|Sum.inl y15_c0=>(on (y15_c0) fun y9_c0=>some ((0:Int),y9_c0))|Sum.inr e13=>(some e13))
theorem Z16_qall:∀n:Nat,Z16_n n=Z16_qn n:=by
 intro n;induction n with
 | zero=>exact(by funext a0 a1 a2; first|rfl|(rw [Z16_n,Z16_qn]))
 | succ n ih =>
  funext a0 a1 a2
  refine Qs ?_;rw [Z16_n,Z16_qn];try rw [ih]
  refine Q.bindO (Z10_eq _ _) fun x4=>?_;refine Q.condO ?_ ?_
  ·all_goals rfl
  refine Q.wrapOO fun Kb13 hKb13=>?_;refine Z16_l13_qe  Kb13 ?_ ?_ _ _ _ ⟨Nat.succ_pos _,by omega⟩
  ·intro n13 s20_14 y15_c0;refine Qe (hKb13 _) ?_;try dsimp only
   refine Q.wrapPO fun Kj8 hKj8=>?_;have hj8:∀(y9_c0:Z0),Z16_j8  y9_c0=Kj8 y9_c0:=by
    intro y9_c0;refine Qe (hKj8 _) ?_;unfold Z16_j8;all_goals rfl
   all_goals exact hj8 _
  intro e13;refine Qe (hKb13 _) ?_;try dsimp only
  all_goals rfl
def Z16_q (a0:Z0) (a1:Z7) (a2:Int):Option (Int×Z0):=Z16_qn F0 a0 a1 a2
theorem Z16_eq (a0:Z0) (a1:Z7) (a2:Int):Z16 a0 a1 a2=Z16_q a0 a1 a2:=by
 unfold Z16 Z16_q; rw [(Z16_qall F0)]
def Z127_q (a0:TRef):Bool:=on (bif (decide ((0:Int)<((a0.FWraps.l.length:Nat):Int))) then((a0.FWraps.l)[0]?.getD (0:Int)) else(0:Int)) fun x4=>((decide ((0:Int)<((a0.FWraps.l.length:Nat):Int)))&&(decide (x4=(1:Int))))
theorem Z127_eq (a0:TRef):Z127 a0=some (Z127_q a0):=by
 unfold Z127 Z127_q;refine Q.guardT (fun hc=>Q.getD_some (by simp at hc; omega)) fun x4 hx_x4=>?_;all_goals rfl
def Z112_q (a0:(Sl Int)):Option (Sl Int):=bif a0.nl then(some (Sl.nil:Sl Int)) else((appC 8 (⟨false,[]⟩:Sl Int) a0).bind fun x7=>some x7)
theorem Z112_eq (a0:(Sl Int)):Z112 a0=Z112_q a0:=by
 unfold Z112 Z112_q;refine Qs ?_;refine Q.condO ?_ ?_
 ·all_goals rfl
 refine Q.bindO rfl fun x7=>?_;all_goals rfl
def Z130_q (a0:TRef):Option TRef:=on (Z127_q a0) fun x8=>Option.bind (bif x8 then((partC a0.FWraps (some (1:Int)) none).bind fun x10=>some x10) else(some a0.FWraps)) fun s3_4=>(Z112_q s3_4).bind fun x6=>some (TRef.mk a0.FName x6)
theorem Z130_eq (a0:TRef):Z130 a0=Z130_q a0:=by
 unfold Z130 Z130_q;refine Qs ?_;refine Q.bindPO (Z127_eq _) fun x8 hx_x8=>?_;refine Q.wrapOO fun Kj3 hKj3=>?_;have hj3:∀(s3_4:(Sl Int)),Z130_j3 a0 s3_4=Kj3 s3_4:=by
  intro s3_4;refine Qe (hKj3 _) ?_;unfold Z130_j3;refine Q.bindO (Z112_eq _) fun x6=>?_;all_goals rfl
 refine Q.condO ?_ ?_
 ·refine Q.bindO rfl fun x10=>?_;all_goals exact hj3 _
 all_goals exact hj3 _
def Z126_q (a0:TRef):Option Bool:=(Z130_q a0).bind fun x3=>on (bif (decide ((0:Int)<((x3.FWraps.l.length:Nat):Int))) then((x3.FWraps.l)[0]?.getD (0:Int)) else(0:Int)) fun x6=>some ((decide ((0:Int)<((x3.FWraps.l.length:Nat):Int)))&&(decide (x6=(2:Int))))
theorem Z126_eq (a0:TRef):Z126 a0=Z126_q a0:=by
 unfold Z126 Z126_q;refine Qs ?_;refine Q.bindO (Z130_eq _) fun x3=>?_;refine Q.guardTO (fun hc=>Q.getD_some (by simp at hc; omega)) fun x6 hx_x6=>?_;all_goals rfl
def Z125_q (a0:TRef):Option (TRef×Bool):=(Z126_q a0).bind fun x4=>bif (!x4) then(some ((TRef.mk ([]:Bs) (Sl.nil:Sl Int)),false)) else((Z130_q a0).bind fun x8=>(partC x8.FWraps (some (1:Int)) none).bind fun x10=>some ((TRef.mk x8.FName x10),true))
theorem Z125_eq (a0:TRef):Z125 a0=Z125_q a0:=by
 unfold Z125 Z125_q;refine Qs ?_;refine Q.bindO (Z126_eq _) fun x4=>?_;refine Q.condO ?_ ?_
 ·all_goals rfl
 refine Q.bindO (Z130_eq _) fun x8=>?_;refine Q.bindO rfl fun x10=>?_;all_goals rfl
def Z106_q7 (a1:Bs):List Z4->Unit ⊕ ((Z4×Bool))
 | []=>Sum.inl ()
 | h7::r7=>on (h7) fun x15=>bif ((x15.FName==a1)) then(Sum.inr (x15,true)) else(Z106_q7 a1 (r7) )
theorem Z106_l7_qe {a0:(Sl Z4)}{a1:Bs}  (Kb7:(Unit ⊕ ((Z4×Bool)))->Option (Z4×Bool)) (hend:∀(n7:Nat) (s10_8:Nat) (y9_l0:Z4),Z106_j2   y9_l0=Kb7 (Sum.inl ())) (hret:∀e:(Z4×Bool),some e=Kb7 (Sum.inr e)):∀(n7:Nat) (s10_8:Nat) (y9_l0:Z4),(0<n7/\a0.l.length<s10_8+n7)->Z106_l7 a0 a1 n7 s10_8 y9_l0=Kb7 (Z106_q7 a1 (a0.l.drop s10_8) ):=by
 intro n7;induction n7 with
 | zero=>intro s10_8 y9_l0 hn; exact absurd hn.1 (by omega)
 | succ n7 ih7 =>
  intro s10_8 y9_l0 hn;rw [Z106_l7];by_cases hlt:s10_8<a0.l.length
  ·obtain⟨h7,hh7⟩:=Qa hlt;rw [Q.drop_of hh7,Z106_q7];refine QT hlt ?_;refine Q.bindP hh7 fun x15 hx_x15=>?_;refine Q.condP ?_ ?_
   ·all_goals exact hret _
   all_goals exact ih7 _ _ ⟨by omega,by omega⟩
  rw [dL (by omega),Z106_q7];refine QF hlt ?_;exact hend n7 s10_8 y9_l0
def Z106_q (a0:(Sl Z4)) (a1:Bs):(Z4×Bool):=on (Z106_q7 a1 a0.l ) fun o7=>match o7 with|Sum.inl _=>(on (()) fun _=>((Z4.mk ([]:Bs) TRef.zero false Z7.zero (Sl.nil:Sl TDir)),false))|Sum.inr e7=>(e7)
theorem Z106_eq (a0:(Sl Z4)) (a1:Bs):Z106 a0 a1=some (Z106_q a0 a1):=by
 unfold Z106 Z106_q;refine Q.wrapPP fun Kb7 hKb7=>?_;refine Z106_l7_qe  Kb7 ?_ ?_ _ _ _ ⟨Nat.succ_pos _,by omega⟩
 ·intro n7 s10_8 y9_l0;refine Qe (hKb7 _) ?_;try dsimp only
  refine Q.wrapPP fun Kj2 hKj2=>?_;have hj2:∀(y3_l0:Z4),Z106_j2  y3_l0=Kj2 ():=by
   intro y3_l0;refine Qe (hKj2 _) ?_;unfold Z106_j2;all_goals rfl
  all_goals exact hj2 _
 intro e7;refine Qe (hKb7 _) ?_;try dsimp only
 all_goals rfl
def Z15_q (a0:Z7) (a1:Bool) (a2:Z0):Z0:=(Z0.mk a2.Fd a0 a1 a2.Fnodes)
theorem Z15_eq (a0:Z7) (a1:Bool) (a2:Z0):Z15 a0 a1 a2=some (Z15_q a0 a1 a2):=by
 unfold Z15 Z15_q;all_goals rfl
def Z137_q (a0:Bs):Z7:=(Z7.mk (3:Int) (0:Int) a0 true ([]) (Sl.nil:Sl Bs))
theorem Z137_eq (a0:Bs):Z137 a0=some (Z137_q a0):=by
 unfold Z137 Z137_q;all_goals rfl
def Z123_q (a0:Int):Option Bs:=(Z122_q a0).bind fun x3=>some x3
theorem Z123_eq (a0:Int):Z123 a0=Z123_q a0:=by
 unfold Z123 Z123_q;refine Qs ?_;refine Q.bindO (Z122_eq _) fun x3=>?_;all_goals rfl
def Z120_q6 (a1:(Z5->Bool)):List Z5->Nat->Unit ⊕ Int
 | [],s8_7=>Sum.inl ()
 | h6::r6,s8_7=>on (h6) fun x14=>on (a1 x14) fun x15=>bif x15 then(Sum.inr ((s8_7:Nat):Int)) else(Z120_q6 a1 (r6) (s8_7+1) )
theorem Z120_l6_qe {a0:(Sl Z5)}{a1:(Z5->Bool)}  (Kb6:(Unit ⊕ Int)->Option Int) (hend:∀(n6:Nat) (s8_7:Nat),Z120_j2   =Kb6 (Sum.inl ())) (hret:∀e:Int,some e=Kb6 (Sum.inr e)):∀(n6:Nat) (s8_7:Nat),(0<n6/\a0.l.length<s8_7+n6)->Z120_l6 a0 (fun y0=>some (a1 y0)) n6 s8_7=Kb6 (Z120_q6 a1 (a0.l.drop s8_7) s8_7 ):=by
 intro n6;induction n6 with
 | zero=>intro s8_7 hn; exact absurd hn.1 (by omega)
 | succ n6 ih6 =>
  intro s8_7 hn;rw [Z120_l6];by_cases hlt:s8_7<a0.l.length
  ·obtain⟨h6,hh6⟩:=Qa hlt;rw [Q.drop_of hh6,Z120_q6];refine QT hlt ?_;refine Q.bindP hh6 fun x14 hx_x14=>?_;refine Q.bindP rfl fun x15 hx_x15=>?_;refine Q.condP ?_ ?_
   ·all_goals exact hret _
   all_goals exact ih6 _ ⟨by omega,by omega⟩
  rw [dL (by omega),Z120_q6];refine QF hlt ?_;exact hend n6 s8_7
def Z120_q (a0:(Sl Z5)) (a1:(Z5->Bool)):Int:=on (Z120_q6 a1 a0.l 0 ) fun o6=>match o6 with|Sum.inl _=>(on (()) fun _=>(-1:Int))|Sum.inr e6=>(e6)
theorem Z120_eq (a0:(Sl Z5)) (a1:(Z5->Bool)):Z120 a0 (fun y0=>some (a1 y0))=some (Z120_q a0 a1):=by
 unfold Z120 Z120_q;refine Q.wrapPP fun Kb6 hKb6=>?_;refine Z120_l6_qe  Kb6 ?_ ?_ _ _ ⟨Nat.succ_pos _,by omega⟩
 ·intro n6 s8_7;refine Qe (hKb6 _) ?_;try dsimp only
  refine Q.wrapPP fun Kj2 hKj2=>?_;have hj2:Z120_j2  =Kj2 ():=by
   refine Qe (hKj2 _) ?_;unfold Z120_j2;all_goals rfl
  all_goals exact hj2
 intro e6;refine Qe (hKb6 _) ?_;try dsimp only
 all_goals rfl
def Z115_q (a0:(Sl Z5)) (a1:(Z5->Bool)):Bool:=on (Z120_q a0 a1) fun x3=>(decide ((0:Int)<=x3))
theorem Z115_eq (a0:(Sl Z5)) (a1:(Z5->Bool)):Z115 a0 (fun y0=>some (a1 y0))=some (Z115_q a0 a1):=by
 unfold Z115 Z115_q;refine Q.bindP (Z120_eq _ _) fun x3 hx_x3=>?_;all_goals rfl
def Z12_q (a0:Z5) (a1:Z7):Bool:=((a0.FName==a1.FText))
theorem Z12_eq (a0:Z5) (a1:Z7):Z12 a0 a1=some (Z12_q a0 a1):=by
 unfold Z12 Z12_q;all_goals rfl
def Z11_q (a0:Z0) (a1:Bs) (a2:Z7):Option (Z7×Int):=on (fun(s8_4:Bool) (y5_l0:Z7)=>bif (!s8_4) then(some ((Z7.mk (0:Int) (0:Int) ([]:Bs) true ([]) (Sl.nil:Sl Bs)),(23:Int))) else(some (y5_l0,(0:Int)))) fun kj3=>bif ((a1==([73,110,116]:Bs))) then(kj3 (((decide (a2.FKind=(2:Int)))&&(decide ((-2147483648:Int)<=a2.FInt)))&&(decide (a2.FInt<(2147483648:Int)))) a2) else(bif ((a1==([83,116,114,105,110,103]:Bs))) then(kj3 (decide (a2.FKind=(3:Int))) a2) else(bif ((a1==([66,111,111,108,101,97,110]:Bs))) then(kj3 (decide (a2.FKind=(1:Int))) a2) else(bif ((a1==([73,68]:Bs))) then(Option.bind (bif (decide (a2.FKind=(2:Int))) then((Z123_q a2.FInt).bind fun x24=>on (Z137_q x24) fun x25=>some x25) else(some a2)) fun y21_l0=>kj3 (decide (y21_l0.FKind=(3:Int))) y21_l0) else(on (bif ((decide (a2.FKind=(3:Int)))&&(!a0.Fliteral)) then((Z7.mk (4:Int) a2.FInt a2.FText a2.FItems.nl a2.FItems.l a2.FKeys)) else(a2)) fun y27_l0=>on (Z105_q a0.Fd a1) fun x29=>on (bif (decide (y27_l0.FKind=(4:Int))) then Z115_q x29.1.FMembers (fun y0=>Z12_q y0 y27_l0) else false) fun x30=>bif (!((decide (y27_l0.FKind=(4:Int)))&&x30)) then(some ((Z7.mk (0:Int) (0:Int) ([]:Bs) true ([]) (Sl.nil:Sl Bs)),(23:Int))) else(some (y27_l0,(0:Int)))))))
theorem Z11_eq (a0:Z0) (a1:Bs) (a2:Z7):Z11 a0 a1 a2=Z11_q a0 a1 a2:=by
 unfold Z11 Z11_q;refine Qs ?_;refine Q.mixO fun kj3 hkj3=>?_;have hj3:∀(s8_4:Bool) (y5_l0:Z7),Z11_j3  s8_4 y5_l0=Option.bind (kj3 s8_4 y5_l0) some:=by
  intro s8_4 y5_l0;unfold Z11_j3;rw [hkj3];try dsimp only
  refine Q.condO ?_ ?_
  ·all_goals rfl
  all_goals rfl
 refine Q.condO ?_ ?_
 ·all_goals exact hj3 _ _
 refine Q.condO ?_ ?_
 ·all_goals exact hj3 _ _
 refine Q.condO ?_ ?_
 ·all_goals exact hj3 _ _
 refine Q.condO ?_ ?_
 ·refine Q.wrapOO fun Kj20 hKj20=>?_;have hj20:∀(y21_l0:Z7),Z11_j20  y21_l0=Kj20 y21_l0:=by
   intro y21_l0;refine Qe (hKj20 _) ?_;unfold Z11_j20;all_goals exact hj3 _ _
  refine Q.condO ?_ ?_
  ·refine Q.bindO (Z123_eq _) fun x24=>?_;refine Q.bindPO (Z137_eq _) fun x25 hx_x25=>?_;all_goals exact hj20 _
  all_goals exact hj20 _
 refine Q.wrapPO fun Kj26 hKj26=>?_;have hj26:∀(y27_l0:Z7),Z11_j26 a0 a1 y27_l0=Kj26 y27_l0:=by
  intro y27_l0;refine Qe (hKj26 _) ?_;unfold Z11_j26;refine Q.bindPO (Z105_eq _ _) fun x29 hx_x29=>?_;refine Q.guardPO (by simp only [Z12_eq,Z115_eq]) fun x30 hx_x30=>?_;refine Q.condO ?_ ?_
  ·all_goals rfl
  all_goals rfl
 refine Q.condP ?_ ?_
 ·all_goals exact hj26 _
 all_goals exact hj26 _
end Go.Proofs

namespace Go.Proofs
open Go Go.Ab
def coerce_coercer_list_q14 (a1:TRef) (a3:Int) (k_rec_90:Z0->TRef->Z7->Int->Option (Z7×Int×Z0)):List Z7->Z0->Z7->Option (((Z0×Z7)) ⊕ ((Z7×Int×Z0)))
 | [],y16_c0,y18_l1=>some (Sum.inl (y16_c0,y18_l1))
 | h14::r14,y16_c0,y18_l1=>on (h14) fun x24=>(addC a3 (1:Int)).bind fun x26=>(k_rec_90 y16_c0 a1 x24 x26).bind fun x27=>bif (!decide (x27.2.1=(0:Int))) then(some (Sum.inr ((Z7.mk (0:Int) (0:Int) ([]:Bs) true ([]) (Sl.nil:Sl Bs)),x27.2.1,x27.2.2))) else((appC 80 y18_l1.FItems (⟨false,[x27.1]⟩:Sl Z7)).bind fun x32=>coerce_coercer_list_q14 a1 a3 k_rec_90 (r14) x27.2.2 (Z7.mk y18_l1.FKind y18_l1.FInt y18_l1.FText x32.nl x32.l y18_l1.FKeys))
theorem coerce_coercer_list_l14_qe {a1:TRef}{a3:Int}{s10_4:(Sl Z7)}{k_rec_90:Z0->TRef->Z7->Int->Option (Z7×Int×Z0)}  (Kb14:(((Z0×Z7)) ⊕ ((Z7×Int×Z0)))->Option (Z7×Int×Z0)) (hend:∀(n14:Nat) (s26_15:Nat) (y16_c0:Z0) (y17_l0:Z7) (y18_l1:Z7),coerce_coercer_list_j7   y16_c0 y17_l0 y18_l1=Kb14 (Sum.inl (y16_c0,y18_l1))) (hret:∀e:(Z7×Int×Z0),some e=Kb14 (Sum.inr e)):∀(n14:Nat) (s26_15:Nat) (y16_c0:Z0) (y17_l0:Z7) (y18_l1:Z7),(0<n14/\s10_4.l.length<s26_15+n14)->coerce_coercer_list_l14 a1 a3 s10_4 k_rec_90 n14 s26_15 y16_c0 y17_l0 y18_l1=Option.bind (coerce_coercer_list_q14 a1 a3 k_rec_90 (s10_4.l.drop s26_15) y16_c0 y18_l1) Kb14:=by
 intro n14;induction n14 with
 | zero=>intro s26_15 y16_c0 y17_l0 y18_l1 hn; exact absurd hn.1 (by omega)
 | succ n14 ih14 =>
  intro s26_15 y16_c0 y17_l0 y18_l1 hn;rw [coerce_coercer_list_l14];by_cases hlt:s26_15<s10_4.l.length
  ·obtain⟨h14,hh14⟩:=Qa hlt;rw [Q.drop_of hh14,coerce_coercer_list_q14];refine QT hlt ?_;refine Q.bindPO hh14 fun x24 hx_x24=>?_;refine Q.bindO rfl fun x26=>?_;refine Q.bindO rfl fun x27=>?_;refine Q.condO ?_ ?_
   ·all_goals exact hret _
   refine Q.bindO rfl fun x32=>?_;all_goals exact ih14 _ _ _ _ ⟨by omega,by omega⟩
  rw [dL (by omega),coerce_coercer_list_q14];refine QF hlt ?_;exact hend n14 s26_15 y16_c0 y17_l0 y18_l1
def coerce_coercer_object_q66 (a0:Z0) (a1:TDef):List Bs->Unit ⊕ ((Z7×Int×Z0))
 | []=>Sum.inl ()
 | h66::r66=>on (h66) fun x74=>on (Z106_q a1.FInputs x74) fun x76=>bif (!x76.2) then(Sum.inr ((Z7.mk (0:Int) (0:Int) ([]:Bs) true ([]) (Sl.nil:Sl Bs)),(22:Int),a0)) else(coerce_coercer_object_q66 a0 a1 (r66) )
theorem coerce_coercer_object_l66_qe {a0:Z0}{a1:TDef}{a2:Z7}{a3:Int}{k_rec_137:Z0->Z4->Int->Option (Z7×Int×Z0)}{k_rec_90:Z0->TRef->Z7->Int->Option (Z7×Int×Z0)}  (Kb66:(Unit ⊕ ((Z7×Int×Z0)))->Option (Z7×Int×Z0)) (hend:∀(n66:Nat) (s30_67:Nat) (y68_l0:Z7),coerce_coercer_object_j6 a0 a1 a2 a3 k_rec_137 k_rec_90 y68_l0=Kb66 (Sum.inl ())) (hret:∀e:(Z7×Int×Z0),some e=Kb66 (Sum.inr e)):∀(n66:Nat) (s30_67:Nat) (y68_l0:Z7),(0<n66/\a2.FKeys.l.length<s30_67+n66)->coerce_coercer_object_l66 a0 a1 a2 a3 k_rec_137 k_rec_90 n66 s30_67 y68_l0=Kb66 (coerce_coercer_object_q66 a0 a1 (a2.FKeys.l.drop s30_67) ):=by
 intro n66;induction n66 with
 | zero=>intro s30_67 y68_l0 hn; exact absurd hn.1 (by omega)
 | succ n66 ih66 =>
  intro s30_67 y68_l0 hn;rw [coerce_coercer_object_l66];by_cases hlt:s30_67<a2.FKeys.l.length
  ·obtain⟨h66,hh66⟩:=Qa hlt;rw [Q.drop_of hh66,coerce_coercer_object_q66];refine QT hlt ?_;refine Q.bindP hh66 fun x74 hx_x74=>?_;refine Q.bindP (Z106_eq _ _) fun x76 hx_x76=>?_;refine Q.condP ?_ ?_
   ·all_goals exact hret _
   all_goals exact ih66 _ _ ⟨by omega,by omega⟩
  rw [dL (by omega),coerce_coercer_object_q66];refine QF hlt ?_;exact hend n66 s30_67 y68_l0
def coerce_coercer_object_q18 (a1:TDef) (a2:Z7) (a3:Int) (k_rec_137:Z0->Z4->Int->Option (Z7×Int×Z0)) (k_rec_90:Z0->TRef->Z7->Int->Option (Z7×Int×Z0)):List Z4->Nat->Z0->Z7->Option (((Z0×Z7)) ⊕ ((Z7×Int×Z0)))
 | [],s49_19,y20_c0,y22_l1=>some (Sum.inl (y20_c0,y22_l1))
 | h18::r18,s49_19,y20_c0,y22_l1=>on (h18) fun x31=>on ((⟨a1.FInputs.nl,a1.FInputs.l.take s49_19⟩:Sl Z4)) fun x34=>on (Z106_q x34 x31.FName) fun x35=>on (fun(y27_c0:Z0) (y29_l1:Z7)=>coerce_coercer_object_q18 a1 a2 a3 k_rec_137 k_rec_90 (r18) (s49_19+1) y27_c0 y29_l1) fun kj26=>bif x35.2 then(kj26 y20_c0 y22_l1) else((Z136_q a2 x31.FName).bind fun x39=>guardO (x39.2) (Z13_q y20_c0 x39.1) false fun x53=>on (fun(s22_43:Int) (y44_c0:Z0) (y45_l2:Z7)=>bif (!decide (s22_43=(0:Int))) then(some (Sum.inr ((Z7.mk (0:Int) (0:Int) ([]:Bs) true ([]) (Sl.nil:Sl Bs)),s22_43,y44_c0))) else((appC 16 y22_l1.FKeys (⟨false,[x31.FName]⟩:Sl Bs)).bind fun x50=>(appC 80 y22_l1.FItems (⟨false,[y45_l2]⟩:Sl Z7)).bind fun x51=>kj26 y44_c0 (Z7.mk y22_l1.FKind y22_l1.FInt y22_l1.FText x51.nl x51.l x50))) fun kj42=>bif (x39.2&&(!x53)) then((addC a3 (1:Int)).bind fun x55=>(k_rec_90 y20_c0 x31.FType x39.1 x55).bind fun x56=>kj42 x56.2.1 x56.2.2 x56.1) else(bif x31.FHas then((addC a3 (1:Int)).bind fun x59=>(k_rec_137 y20_c0 x31 x59).bind fun x60=>kj42 x60.2.1 x60.2.2 x60.1) else(on (Z127_q x31.FType) fun x62=>bif x62 then(kj42 (22:Int) y20_c0 Z7.zero) else(kj26 y20_c0 y22_l1))))
theorem coerce_coercer_object_l18_qe {a1:TDef}{a2:Z7}{a3:Int}{k_rec_137:Z0->Z4->Int->Option (Z7×Int×Z0)}{k_rec_90:Z0->TRef->Z7->Int->Option (Z7×Int×Z0)}  (Kb18:(((Z0×Z7)) ⊕ ((Z7×Int×Z0)))->Option (Z7×Int×Z0)) (hend:∀(n18:Nat) (s49_19:Nat) (y20_c0:Z0) (y21_l0:Z7) (y22_l1:Z7),coerce_coercer_object_j11   y20_c0 y21_l0 y22_l1=Kb18 (Sum.inl (y20_c0,y22_l1))) (hret:∀e:(Z7×Int×Z0),some e=Kb18 (Sum.inr e)):∀(n18:Nat) (s49_19:Nat) (y20_c0:Z0) (y21_l0:Z7) (y22_l1:Z7),(0<n18/\a1.FInputs.l.length<s49_19+n18)->coerce_coercer_object_l18 a1 a2 a3 k_rec_137 k_rec_90 n18 s49_19 y20_c0 y21_l0 y22_l1=Option.bind (coerce_coercer_object_q18 a1 a2 a3 k_rec_137 k_rec_90 (a1.FInputs.l.drop s49_19) s49_19 y20_c0 y22_l1) Kb18:=by
 intro n18;induction n18 with
 | zero=>intro s49_19 y20_c0 y21_l0 y22_l1 hn; exact absurd hn.1 (by omega)
 | succ n18 ih18 =>
  intro s49_19 y20_c0 y21_l0 y22_l1 hn;rw [coerce_coercer_object_l18];by_cases hlt:s49_19<a1.FInputs.l.length
  ·obtain⟨h18,hh18⟩:=Qa hlt;rw [Q.drop_of hh18,coerce_coercer_object_q18];refine QT hlt ?_;refine Q.bindPO hh18 fun x31 hx_x31=>?_;refine Q.bindPO (Q.partC_take (by omega)) fun x34 hx_x34=>?_;refine Q.bindPO (Z106_eq _ _) fun x35 hx_x35=>?_;refine Q.mixO fun kj26 hkj26=>?_;have hj26:∀(y27_c0:Z0) (y28_l0:Z7) (y29_l1:Z7),coerce_coercer_object_j26 s49_19 (coerce_coercer_object_l18 a1 a2 a3 k_rec_137 k_rec_90 n18) y27_c0 y28_l0 y29_l1=Option.bind (kj26 y27_c0 y29_l1) Kb18:=by
    intro y27_c0 y28_l0 y29_l1;unfold coerce_coercer_object_j26;rw [hkj26];try dsimp only
    all_goals exact ih18 _ _ _ _ ⟨by omega,by omega⟩
   refine Q.condO ?_ ?_
   ·all_goals exact hj26 _ _ _
   refine Q.bindO (Z136_eq _ _) fun x39=>?_;refine Q.guardOO (Z13_eq _ _) fun x53=>?_;refine Q.mixO fun kj42 hkj42=>?_;have hj42:∀(s22_43:Int) (y44_c0:Z0) (y45_l2:Z7),coerce_coercer_object_j42 s49_19 y21_l0 y22_l1 x31 (coerce_coercer_object_l18 a1 a2 a3 k_rec_137 k_rec_90 n18) s22_43 y44_c0 y45_l2=Option.bind (kj42 s22_43 y44_c0 y45_l2) Kb18:=by
    intro s22_43 y44_c0 y45_l2;unfold coerce_coercer_object_j42;rw [hkj42];try dsimp only
    refine Q.condO ?_ ?_
    ·all_goals exact hret _
    refine Q.bindO rfl fun x50=>?_;refine Q.bindO rfl fun x51=>?_;all_goals exact hj26 _ _ _
   refine Q.condO ?_ ?_
   ·refine Q.bindO rfl fun x55=>?_;refine Q.bindO rfl fun x56=>?_;all_goals exact hj42 _ _ _
   refine Q.condO ?_ ?_
   ·refine Q.bindO rfl fun x59=>?_;refine Q.bindO rfl fun x60=>?_;all_goals exact hj42 _ _ _
   refine Q.bindPO (Z127_eq _) fun x62 hx_x62=>?_;refine Q.condO ?_ ?_
   ·all_goals exact hj42 _ _ _
   all_goals exact hj26 _ _ _
  rw [dL (by omega),coerce_coercer_object_q18];refine QF hlt ?_;exact hend n18 s49_19 y20_c0 y21_l0 y22_l1
mutual
def coerce_coercer_at_qn:Nat->Z0->TRef->Z7->Int->Option (Z7×Int×Z0)
 | 0,_,_,_,_=>none
 | n+1,a0,a1,a2,a3=>on (Z107_q a0.Fd a1.FName) fun x4=>bif (!x4) then(some ((Z7.mk (0:Int) (0:Int) ([]:Bs) true ([]) (Sl.nil:Sl Bs)),(10:Int),a0)) else(on (fun(y8_c0:Z0) (y9_l0:Z7)=>(Z10_q y8_c0 a3).bind fun x13=>bif (!decide (x13.1=(0:Int))) then(some ((Z7.mk (0:Int) (0:Int) ([]:Bs) true ([]) (Sl.nil:Sl Bs)),x13.1,x13.2)) else(bif (decide (y9_l0.FKind=(0:Int))) then(on (Z127_q a1) fun x22=>bif x22 then(some ((Z7.mk (0:Int) (0:Int) ([]:Bs) true ([]) (Sl.nil:Sl Bs)),(23:Int),x13.2)) else(some ((Z7.mk (0:Int) (0:Int) ([]:Bs) true ([]) (Sl.nil:Sl Bs)),(0:Int),x13.2))) else((Z125_q a1).bind fun x28=>bif x28.2 then(((coerce_coercer_list_qn n) x13.2 x28.1 y9_l0 a3).bind fun x32=>some (x32.1,x32.2.1,x32.2.2)) else(on (Z105_q x13.2.Fd a1.FName) fun x35=>on (bif x35.2 then Z110_q a1.FName else false) fun x37=>bif ((x35.2&&(!x37))&&(decide (x35.1.FKind=(5:Int)))) then(((coerce_coercer_object_qn n) x13.2 x35.1 y9_l0 a3).bind fun x40=>some (x40.1,x40.2.1,x40.2.2)) else((Z11_q x13.2 a1.FName y9_l0).bind fun x42=>some (x42.1,x42.2,x13.2)))))) fun kj7=>bif ((decide (a2.FKind=(7:Int)))&&a0.Fliteral) then((Z136_q a0.Fvars a2.FText).bind fun x46=>bif (!decide (x46.1.FKind=(0:Int))) then((Z16_q a0 x46.1 a3).bind fun x50=>bif (!decide (x50.1=(0:Int))) then(some ((Z7.mk (0:Int) (0:Int) ([]:Bs) true ([]) (Sl.nil:Sl Bs)),x50.1,x50.2)) else(some (x46.1,(0:Int),x50.2))) else(kj7 a0 x46.1)) else(kj7 a0 a2))
def coerce_coercer_list_qn:Nat->Z0->TRef->Z7->Int->Option (Z7×Int×Z0)
 | 0,_,_,_,_=>none
 | n+1,a0,a1,a2,a3=>on (bif (!decide (a2.FKind=(5:Int))) then((⟨false,[a2]⟩:Sl Z7)) else(a2.FItems)) fun s10_4=>Option.bind (coerce_coercer_list_q14 a1 a3 (coerce_coercer_at_qn n) s10_4.l a0 (Z7.mk (5:Int) (0:Int) ([]:Bs) true ([]) (Sl.nil:Sl Bs))) fun o14=>match o14 with|Sum.inl z14=>(on ((z14.1,z14.2)) fun z7=>some (z7.2,(0:Int),z7.1))|Sum.inr e14=>(some e14)
def coerce_coercer_object_qn:Nat->Z0->TDef->Z7->Int->Option (Z7×Int×Z0)
 | 0,_,_,_,_=>none
 | n+1,a0,a1,a2,a3=>bif (!decide (a2.FKind=(6:Int))) then(some ((Z7.mk (0:Int) (0:Int) ([]:Bs) true ([]) (Sl.nil:Sl Bs)),(23:Int),a0)) else(on (coerce_coercer_object_q66 a0 a1 a2.FKeys.l ) fun o66=>match o66 with|Sum.inl _=>(on (()) fun _=>Option.bind (coerce_coercer_object_q18 a1 a2 a3 (Z14_qn n) (coerce_coercer_at_qn n) a1.FInputs.l 0 a0 (Z7.mk (6:Int) (0:Int) ([]:Bs) true ([]) (Sl.nil:Sl Bs))) fun o18=>match o18 with|Sum.inl z18=>(on ((z18.1,z18.2)) fun z11=>some (z11.2,(0:Int),z11.1))|Sum.inr e18=>(some e18))|Sum.inr e66=>(some e66))
def Z14_qn:Nat->Z0->Z4->Int->Option (Z7×Int×Z0)
 | 0,_,_,_=>none
 | n+1,a0,a1,a2=>((coerce_coercer_at_qn n) (Z0.mk a0.Fd (Z7.mk (0:Int) (0:Int) ([]:Bs) true ([]) (Sl.nil:Sl Bs)) true a0.Fnodes) a1.FType a1.FDefault a2).bind fun x5=>on (Z15_q a0.Fvars a0.Fliteral x5.2.2) fun x6=>some (x5.1,x5.2.1,x6)
end
theorem coerce_coercer_at_qall:∀n:Nat,coerce_coercer_at_n n=coerce_coercer_at_qn n/\coerce_coercer_list_n n=coerce_coercer_list_qn n/\coerce_coercer_object_n n=coerce_coercer_object_qn n/\Z14_n n=Z14_qn n:=by
 intro n;induction n with
 | zero=>exact⟨(by funext a0 a1 a2 a3; first|rfl|(rw [coerce_coercer_at_n,coerce_coercer_at_qn])),(by funext a0 a1 a2 a3; first|rfl|(rw [coerce_coercer_list_n,coerce_coercer_list_qn])),(by funext a0 a1 a2 a3; first|rfl|(rw [coerce_coercer_object_n,coerce_coercer_object_qn])),(by funext a0 a1 a2; first|rfl|(rw [Z14_n,Z14_qn]))⟩
 | succ n ih =>
  refine⟨?_, ?_, ?_, ?_⟩
  ·funext a0 a1 a2 a3
   refine Qs ?_;rw [coerce_coercer_at_n,coerce_coercer_at_qn];try rw [ih.1]
   try rw [ih.2.1]
   try rw [ih.2.2.1]
   try rw [ih.2.2.2]
   refine Q.bindPO (Z107_eq _ _) fun x4 hx_x4=>?_;refine Q.condO ?_ ?_
   ·all_goals rfl
   refine Q.mixO fun kj7 hkj7=>?_;have hj7:∀(y8_c0:Z0) (y9_l0:Z7) (y10_l1:Z7),coerce_coercer_at_j7 a1 a3 (coerce_coercer_list_qn n) (coerce_coercer_object_qn n) y8_c0 y9_l0 y10_l1=Option.bind (kj7 y8_c0 y9_l0) some:=by
    intro y8_c0 y9_l0 y10_l1;unfold coerce_coercer_at_j7;rw [hkj7];try dsimp only
    refine Q.bindO (Z10_eq _ _) fun x13=>?_;refine Q.condO ?_ ?_
    ·all_goals rfl
    refine Q.condO ?_ ?_
    ·refine Q.bindPO (Z127_eq _) fun x22 hx_x22=>?_;refine Q.condO ?_ ?_
     ·all_goals rfl
     all_goals rfl
    refine Q.bindO (Z125_eq _) fun x28=>?_;refine Q.condO ?_ ?_
    ·refine Q.bindO rfl fun x32=>?_;all_goals rfl
    refine Q.bindPO (Z105_eq _ _) fun x35 hx_x35=>?_;refine Q.guardPO (Z110_eq _) fun x37 hx_x37=>?_;refine Q.condO ?_ ?_
    ·refine Q.bindO rfl fun x40=>?_;all_goals rfl
    refine Q.bindO (Z11_eq _ _ _) fun x42=>?_;all_goals rfl
   refine Q.condO ?_ ?_
   ·refine Q.bindO (Z136_eq _ _) fun x46=>?_;refine Q.condO ?_ ?_
    ·refine Q.bindO (Z16_eq _ _ _) fun x50=>?_;refine Q.condO ?_ ?_
     ·all_goals rfl
     all_goals rfl
    all_goals exact hj7 _ _ _
   all_goals exact hj7 _ _ _
  ·funext a0 a1 a2 a3
   refine Qs ?_;rw [coerce_coercer_list_n,coerce_coercer_list_qn];try rw [ih.1]
   try rw [ih.2.1]
   try rw [ih.2.2.1]
   try rw [ih.2.2.2]
   refine Q.wrapPO fun Kj3 hKj3=>?_;have hj3:∀(s10_4:(Sl Z7)),coerce_coercer_list_j3 a0 a1 a3 (coerce_coercer_at_qn n) s10_4=Kj3 s10_4:=by
    intro s10_4;refine Qe (hKj3 _) ?_;unfold coerce_coercer_list_j3;refine Q.wrapOO fun Kb14 hKb14=>?_;refine coerce_coercer_list_l14_qe  Kb14 ?_ ?_ _ _ _ _ _ ⟨Nat.succ_pos _,by omega⟩
    ·intro n14 s26_15 y16_c0 y17_l0 y18_l1;refine Qe (hKb14 _) ?_;try dsimp only
     refine Q.wrapPO fun Kj7 hKj7=>?_;have hj7:∀(y8_c0:Z0) (y9_l0:Z7) (y10_l1:Z7),coerce_coercer_list_j7  y8_c0 y9_l0 y10_l1=Kj7 (y8_c0,y10_l1):=by
      intro y8_c0 y9_l0 y10_l1;refine Qe (hKj7 _) ?_;try dsimp only
      unfold coerce_coercer_list_j7;all_goals rfl
     all_goals exact hj7 _ _ _
    intro e14;refine Qe (hKb14 _) ?_;try dsimp only
    all_goals rfl
   refine Q.condP ?_ ?_
   ·all_goals exact hj3 _
   all_goals exact hj3 _
  ·funext a0 a1 a2 a3
   refine Qs ?_;rw [coerce_coercer_object_n,coerce_coercer_object_qn];try rw [ih.1]
   try rw [ih.2.1]
   try rw [ih.2.2.1]
   try rw [ih.2.2.2]
   refine Q.condO ?_ ?_
   ·all_goals rfl
   refine Q.wrapPO fun Kb66 hKb66=>?_;refine coerce_coercer_object_l66_qe  Kb66 ?_ ?_ _ _ _ ⟨Nat.succ_pos _,by omega⟩
   ·intro n66 s30_67 y68_l0;refine Qe (hKb66 _) ?_;try dsimp only
    refine Q.wrapPO fun Kj6 hKj6=>?_;have hj6:∀(y7_l0:Z7),coerce_coercer_object_j6 a0 a1 a2 a3 (Z14_qn n) (coerce_coercer_at_qn n) y7_l0=Kj6 ():=by
     intro y7_l0;refine Qe (hKj6 _) ?_;unfold coerce_coercer_object_j6;refine Q.wrapOO fun Kb18 hKb18=>?_;refine coerce_coercer_object_l18_qe  Kb18 ?_ ?_ _ _ _ _ _ ⟨Nat.succ_pos _,by omega⟩
     ·intro n18 s49_19 y20_c0 y21_l0 y22_l1;refine Qe (hKb18 _) ?_;try dsimp only
      refine Q.wrapPO fun Kj11 hKj11=>?_;have hj11:∀(y12_c0:Z0) (y13_l0:Z7) (y14_l1:Z7),coerce_coercer_object_j11  y12_c0 y13_l0 y14_l1=Kj11 (y12_c0,y14_l1):=by
       intro y12_c0 y13_l0 y14_l1;refine Qe (hKj11 _) ?_;try dsimp only
       unfold coerce_coercer_object_j11;all_goals rfl
      all_goals exact hj11 _ _ _
     intro e18;refine Qe (hKb18 _) ?_;try dsimp only
     all_goals rfl
    all_goals exact hj6 _
   intro e66;refine Qe (hKb66 _) ?_;try dsimp only
   all_goals rfl
  funext a0 a1 a2
  refine Qs ?_;rw [Z14_n,Z14_qn];try rw [ih.1]
  try rw [ih.2.1]
  try rw [ih.2.2.1]
  try rw [ih.2.2.2]
  refine Q.bindO rfl fun x5=>?_;refine Q.bindPO (Z15_eq _ _ _) fun x6 hx_x6=>?_;all_goals rfl
def coerce_coercer_at_q (a0:Z0) (a1:TRef) (a2:Z7) (a3:Int):Option (Z7×Int×Z0):=coerce_coercer_at_qn F0 a0 a1 a2 a3
theorem coerce_coercer_at_eq (a0:Z0) (a1:TRef) (a2:Z7) (a3:Int):coerce_coercer_at a0 a1 a2 a3=coerce_coercer_at_q a0 a1 a2 a3:=by
 unfold coerce_coercer_at coerce_coercer_at_q; rw [(coerce_coercer_at_qall F0).1]
def Z9_q (a0:TDoc) (a1:TRef) (a2:Z7) (a3:Z7):Option (Z7×Int):=(Z13_q (Z0.mk a0 a3 true (0:Int)) a2).bind fun x6=>bif x6 then(on (Z107_q a0 a1.FName) fun x10=>bif (!x10) then(some ((Z7.mk (0:Int) (0:Int) ([]:Bs) true ([]) (Sl.nil:Sl Bs)),(10:Int))) else(some ((Z7.mk (0:Int) (0:Int) ([]:Bs) true ([]) (Sl.nil:Sl Bs)),(8:Int)))) else((coerce_coercer_at_q (Z0.mk a0 a3 true (0:Int)) a1 a2 (1:Int)).bind fun x15=>(Z17_q x15.1 x15.2.1).bind fun x16=>some (x16.1,x16.2))
theorem Z9_eq (a0:TDoc) (a1:TRef) (a2:Z7) (a3:Z7):Z9 a0 a1 a2 a3=Z9_q a0 a1 a2 a3:=by
 unfold Z9 Z9_q;refine Qs ?_;refine Q.bindO (Z13_eq _ _) fun x6=>?_;refine Q.condO ?_ ?_
 ·refine Q.bindPO (Z107_eq _ _) fun x10 hx_x10=>?_;refine Q.condO ?_ ?_
  ·all_goals rfl
  all_goals rfl
 refine Q.bindO (coerce_coercer_at_eq _ _ _ _) fun x15=>?_;refine Q.bindO (Z17_eq _ _) fun x16=>?_;all_goals rfl
def Z143_q4 (a1:TOp) (a2:(Sl Bs)):List TVar->Nat->Z8->Option (Z8)
 | [],s17_5,y6_c0=>some y6_c0
 | h4::r4,s17_5,y6_c0=>on (h4) fun x13=>on ((⟨a1.FVars.nl,a1.FVars.l.take s17_5⟩:Sl TVar)) fun x15=>on (Z114_q x15 (fun y0=>Z144_q y0 x13)) fun x16=>(Z142_q y6_c0 x16 (7:Int) a1.FName).bind fun x18=>on (Z105_q x18.Fd x13.FType.FName) fun x20=>on (bif !x20.2 then Z110_q x13.FType.FName else false) fun x22=>on (Z107_q x18.Fd x13.FType.FName) fun x24=>(Z142_q x18 (!(x20.2||x22)) (8:Int) a1.FName).bind fun x26=>(Z142_q x26 ((x20.2||x22)&&(!x24)) (10:Int) a1.FName).bind fun x28=>Option.bind (bif (x13.FHas&&x24) then((Z9_q x28.Fd x13.FType x13.FDefault (Z7.mk (6:Int) (0:Int) ([]:Bs) true ([]) (Sl.nil:Sl Bs))).bind fun x36=>(Z142_q x28 (!decide (x36.2=(0:Int))) (23:Int) a1.FName).bind fun x37=>some x37) else(some x28)) fun y30_c0=>on (Z116_q a2 x13.FName) fun x31=>(Z142_q y30_c0 (!x31) (26:Int) a1.FName).bind fun x32=>on (x32) fun y11_c0=>Z143_q4 a1 a2 (r4) (s17_5+1) y11_c0
theorem Z143_l4_qe {a1:TOp}{a2:(Sl Bs)}  (Kb4:(Z8)->Option Z8) (hend:∀(n4:Nat) (s17_5:Nat) (y6_c0:Z8),some y6_c0=Kb4 y6_c0):∀(n4:Nat) (s17_5:Nat) (y6_c0:Z8),(0<n4/\a1.FVars.l.length<s17_5+n4)->Z143_l4 a1 a2 n4 s17_5 y6_c0=Option.bind (Z143_q4 a1 a2 (a1.FVars.l.drop s17_5) s17_5 y6_c0) Kb4:=by
 intro n4;induction n4 with
 | zero=>intro s17_5 y6_c0 hn; exact absurd hn.1 (by omega)
 | succ n4 ih4 =>
  intro s17_5 y6_c0 hn;rw [Z143_l4];by_cases hlt:s17_5<a1.FVars.l.length
  ·obtain⟨h4,hh4⟩:=Qa hlt;rw [Q.drop_of hh4,Z143_q4];refine QT hlt ?_;refine Q.bindPO hh4 fun x13 hx_x13=>?_;refine Q.bindPO (Q.partC_take (by omega)) fun x15 hx_x15=>?_;refine Q.bindPO (by simp only [Z144_eq,Z114_eq]) fun x16 hx_x16=>?_;refine Q.bindO (Z142_eq _ _ _ _) fun x18=>?_;refine Q.bindPO (Z105_eq _ _) fun x20 hx_x20=>?_;refine Q.guardPO (Z110_eq _) fun x22 hx_x22=>?_;refine Q.bindPO (Z107_eq _ _) fun x24 hx_x24=>?_
   refine Q.bindO (Z142_eq _ _ _ _) fun x26=>?_;refine Q.bindO (Z142_eq _ _ _ _) fun x28=>?_;refine Q.wrapOO fun Kj29 hKj29=>?_;have hj29:∀(y30_c0:Z8),Z143_j29 a1 a2 s17_5 x13 (Z143_l4 a1 a2 n4) y30_c0=Kj29 y30_c0:=by
    intro y30_c0;refine Qe (hKj29 _) ?_;unfold Z143_j29;refine Q.bindPO (Z116_eq _ _) fun x31 hx_x31=>?_;refine Q.bindO (Z142_eq _ _ _ _) fun x32=>?_;refine Q.wrapPO fun Kj10 hKj10=>?_;have hj10:∀(y11_c0:Z8),Z143_j10 s17_5 (Z143_l4 a1 a2 n4) y11_c0=Kj10 y11_c0:=by
     intro y11_c0;refine Qe (hKj10 _) ?_;unfold Z143_j10;all_goals exact ih4 _ _ ⟨by omega,by omega⟩
    all_goals exact hj10 _
   refine Q.condO ?_ ?_
   ·refine Q.bindO (Z9_eq _ _ _ _) fun x36=>?_;refine Q.bindO (Z142_eq _ _ _ _) fun x37=>?_;all_goals exact hj29 _
   all_goals exact hj29 _
  rw [dL (by omega),Z143_q4];refine QF hlt ?_;exact hend n4 s17_5 y6_c0
def Z143_q (a0:Z8) (a1:TOp) (a2:(Sl Bs)):Option Z8:=Option.bind (Z143_q4 a1 a2 a1.FVars.l 0 a0) fun y6_c0=>some y6_c0
theorem Z143_eq (a0:Z8) (a1:TOp) (a2:(Sl Bs)):Z143 a0 a1 a2=Z143_q a0 a1 a2:=by
 unfold Z143 Z143_q;refine Qs ?_;refine Q.wrapOO fun Kb4 hKb4=>?_;refine Z143_l4_qe  Kb4 ?_ _ _ _ ⟨Nat.succ_pos _,by omega⟩;intro n4 s17_5 y6_c0;refine Qe (hKb4 _) ?_;all_goals rfl
def Z118_q12 (a1:(Sl Int)):List Int->Nat->Option (Unit ⊕ Bool)
 | [],s13_13=>some (Sum.inl ())
 | h12::r12,s13_13=>on (h12) fun x20=>(a1.l[s13_13]?).bind fun x21=>bif (!decide (x20=x21)) then(some (Sum.inr false)) else(Z118_q12 a1 (r12) (s13_13+1) )
theorem Z118_l12_qe {a0:(Sl Int)}{a1:(Sl Int)}  (Kb12:(Unit ⊕ Bool)->Option Bool) (hend:∀(n12:Nat) (s13_13:Nat),Z118_j8   =Kb12 (Sum.inl ())) (hret:∀e:Bool,some e=Kb12 (Sum.inr e)):∀(n12:Nat) (s13_13:Nat),(0<n12/\a0.l.length<s13_13+n12)->Z118_l12 a0 a1 n12 s13_13=Option.bind (Z118_q12 a1 (a0.l.drop s13_13) s13_13 ) Kb12:=by
 intro n12;induction n12 with
 | zero=>intro s13_13 hn; exact absurd hn.1 (by omega)
 | succ n12 ih12 =>
  intro s13_13 hn;rw [Z118_l12];by_cases hlt:s13_13<a0.l.length
  ·obtain⟨h12,hh12⟩:=Qa hlt;rw [Q.drop_of hh12,Z118_q12];refine QT hlt ?_;refine Q.bindPO hh12 fun x20 hx_x20=>?_;refine Q.bindO rfl fun x21=>?_;refine Q.condO ?_ ?_
   ·all_goals exact hret _
   all_goals exact ih12 _ ⟨by omega,by omega⟩
  rw [dL (by omega),Z118_q12];refine QF hlt ?_;exact hend n12 s13_13
def Z118_q (a0:(Sl Int)) (a1:(Sl Int)):Option Bool:=bif (!decide (((a0.l.length:Nat):Int)=((a1.l.length:Nat):Int))) then(some false) else(Option.bind (Z118_q12 a1 a0.l 0 ) fun o12=>match o12 with|Sum.inl _=>(on (()) fun _=>some true)|Sum.inr e12=>(some e12))
theorem Z118_eq (a0:(Sl Int)) (a1:(Sl Int)):Z118 a0 a1=Z118_q a0 a1:=by
 unfold Z118 Z118_q;refine Qs ?_;refine Q.condO ?_ ?_
 ·all_goals rfl
 refine Q.wrapOO fun Kb12 hKb12=>?_;refine Z118_l12_qe  Kb12 ?_ ?_ _ _ ⟨Nat.succ_pos _,by omega⟩
 ·intro n12 s13_13;refine Qe (hKb12 _) ?_;try dsimp only
  refine Q.wrapPO fun Kj8 hKj8=>?_;have hj8:Z118_j8  =Kj8 ():=by
   refine Qe (hKj8 _) ?_;unfold Z118_j8;all_goals rfl
  all_goals exact hj8
 intro e12;refine Qe (hKb12 _) ?_;try dsimp only
 all_goals rfl
def Z134_q (a0:(Sl Int)):Option (Sl Int):=(Z112_q a0).bind fun x3=>(some (delL Z135 x3)).bind fun x4=>some x4
theorem Z134_eq (a0:(Sl Int)):Z134 a0=Z134_q a0:=by
 unfold Z134 Z134_q;refine Qs ?_;refine Q.bindO (Z112_eq _) fun x3=>?_;refine Q.bindO rfl fun x4=>?_;all_goals rfl
def Z132_q (a0:TRef) (a1:TRef):Option Bool:=guardO (((a0.FName==a1.FName))) (Z134_q a0.FWraps) (Sl.nil:Sl Int) fun x3=>guardO (((a0.FName==a1.FName))) (Z134_q a1.FWraps) (Sl.nil:Sl Int) fun x4=>guardO (((a0.FName==a1.FName))) (Z118_q x3 x4) false fun x5=>some (((a0.FName==a1.FName))&&x5)
theorem Z132_eq (a0:TRef) (a1:TRef):Z132 a0 a1=Z132_q a0 a1:=by
 unfold Z132 Z132_q;refine Qs ?_;refine Q.guardOO (Z134_eq _) fun x3=>?_;refine Q.guardOO (Z134_eq _) fun x4=>?_;refine Q.guardOO (Z118_eq _ _) fun x5=>?_;all_goals rfl
def Z133_q (a0:TRef) (a1:TRef):Option (TRef×Bool):=Z133 a0 a1
theorem Z133_eq (a0:TRef) (a1:TRef):Z133 a0 a1=Z133_q a0 a1:=rfl
def Z131_q (a0:TRef) (a1:TRef):Option Bool:=guardO (((a0.FName==a1.FName))) (Z118_q a0.FWraps a1.FWraps) false fun x3=>some (((a0.FName==a1.FName))&&x3)
theorem Z131_eq (a0:TRef) (a1:TRef):Z131 a0 a1=Z131_q a0 a1:=by
 unfold Z131 Z131_q;refine Qs ?_;refine Q.guardOO (Z118_eq _ _) fun x3=>?_;all_goals rfl
def Z124_q (a0:TRef) (a1:TRef):Option Bool:=(Z133_q a0 a1).bind fun x3=>guardO (x3.2) (Z131_q x3.1 a1) false fun x5=>some (x3.2&&x5)
theorem Z124_eq (a0:TRef) (a1:TRef):Z124 a0 a1=Z124_q a0 a1:=by
 unfold Z124 Z124_q;refine Qs ?_;refine Q.bindO (Z133_eq _ _) fun x3=>?_;refine Q.guardOO (Z131_eq _ _) fun x5=>?_;all_goals rfl
def Z140_q (a0:TDoc) (a1:TVar) (a2:TRef) (a3:Bool):Option Bool:=(Z124_q a1.FType a2).bind fun x3=>some x3
theorem Z140_eq (a0:TDoc) (a1:TVar) (a2:TRef) (a3:Bool):Z140 a0 a1 a2 a3=Z140_q a0 a1 a2 a3:=by
 unfold Z140 Z140_q;refine Qs ?_;refine Q.bindO (Z124_eq _ _) fun x3=>?_;all_goals rfl
def Z148_q (a0:TVar) (a1:Z7):Bool:=((a0.FName==a1.FText))
theorem Z148_eq (a0:TVar) (a1:Z7):Z148 a0 a1=some (Z148_q a0 a1):=by
 unfold Z148 Z148_q;all_goals rfl
def Z147_q16 (a3:Bool) (a4:Bs) (x13:(TRef×Bool)) (k_rec_91:Z8->Z7->TRef->Bool->Bs->Option Z8):List Z7->Z8->Option (Z8)
 | [],y18_c0=>some y18_c0
 | h16::r16,y18_c0=>on (h16) fun x24=>(k_rec_91 y18_c0 x24 x13.1 (a3&&x13.2) a4).bind fun x25=>Z147_q16 a3 a4 x13 k_rec_91 (r16) x25
theorem Z147_l16_qe {a1:Z7}{a3:Bool}{a4:Bs}{x13:(TRef×Bool)}{k_rec_91:Z8->Z7->TRef->Bool->Bs->Option Z8}  (Kb16:(Z8)->Option Z8) (hend:∀(n16:Nat) (s66_17:Nat) (y18_c0:Z8),some y18_c0=Kb16 y18_c0):∀(n16:Nat) (s66_17:Nat) (y18_c0:Z8),(0<n16/\a1.FItems.l.length<s66_17+n16)->Z147_l16 a1 a3 a4 x13 k_rec_91 n16 s66_17 y18_c0=Option.bind (Z147_q16 a3 a4 x13 k_rec_91 (a1.FItems.l.drop s66_17) y18_c0) Kb16:=by
 intro n16;induction n16 with
 | zero=>intro s66_17 y18_c0 hn; exact absurd hn.1 (by omega)
 | succ n16 ih16 =>
  intro s66_17 y18_c0 hn;rw [Z147_l16];by_cases hlt:s66_17<a1.FItems.l.length
  ·obtain⟨h16,hh16⟩:=Qa hlt;rw [Q.drop_of hh16,Z147_q16];refine QT hlt ?_;refine Q.bindPO hh16 fun x24 hx_x24=>?_;refine Q.bindO rfl fun x25=>?_;all_goals exact ih16 _ _ ⟨by omega,by omega⟩
  rw [dL (by omega),Z147_q16];refine QF hlt ?_;exact hend n16 s66_17 y18_c0
def Z147_q33 (a1:Z7) (a3:Bool) (a4:Bs) (x29:(TDef×Bool)) (k_rec_91:Z8->Z7->TRef->Bool->Bs->Option Z8):List Z7->Nat->Z8->Option (Z8)
 | [],s104_34,y35_c0=>some y35_c0
 | h33::r33,s104_34,y35_c0=>on (h33) fun x42=>Option.bind (bif (((x29.2&&a3)&&(decide (x29.1.FKind=(5:Int))))&&(decide (((s104_34:Nat):Int)<((a1.FKeys.l.length:Nat):Int)))) then((a1.FKeys.l[s104_34]?).bind fun x51=>on (Z106_q x29.1.FInputs x51) fun x52=>some (x52.2,x52.1)) else(some (false,Z4.zero))) fun z45=>(k_rec_91 y35_c0 x42 z45.2.FType z45.1 a4).bind fun x48=>on (x48) fun y40_c0=>Z147_q33 a1 a3 a4 x29 k_rec_91 (r33) (s104_34+1) y40_c0
theorem Z147_l33_qe {a1:Z7}{a3:Bool}{a4:Bs}{x29:(TDef×Bool)}{k_rec_91:Z8->Z7->TRef->Bool->Bs->Option Z8}  (Kb33:(Z8)->Option Z8) (hend:∀(n33:Nat) (s104_34:Nat) (y35_c0:Z8),some y35_c0=Kb33 y35_c0):∀(n33:Nat) (s104_34:Nat) (y35_c0:Z8),(0<n33/\a1.FItems.l.length<s104_34+n33)->Z147_l33 a1 a3 a4 x29 k_rec_91 n33 s104_34 y35_c0=Option.bind (Z147_q33 a1 a3 a4 x29 k_rec_91 (a1.FItems.l.drop s104_34) s104_34 y35_c0) Kb33:=by
 intro n33;induction n33 with
 | zero=>intro s104_34 y35_c0 hn; exact absurd hn.1 (by omega)
 | succ n33 ih33 =>
  intro s104_34 y35_c0 hn;rw [Z147_l33];by_cases hlt:s104_34<a1.FItems.l.length
  ·obtain⟨h33,hh33⟩:=Qa hlt;rw [Q.drop_of hh33,Z147_q33];refine QT hlt ?_;refine Q.bindPO hh33 fun x42 hx_x42=>?_;refine Q.wrapOO fun Kj45 hKj45=>?_;have hj45:∀(s20_46:Bool) (y47_l0:Z4),Z147_j45 a4 s104_34 y35_c0 x42 (Z147_l33 a1 a3 a4 x29 k_rec_91 n33) k_rec_91 s20_46 y47_l0=Kj45 (s20_46,y47_l0):=by
    intro s20_46 y47_l0;refine Qe (hKj45 _) ?_;try dsimp only
    unfold Z147_j45;refine Q.bindO rfl fun x48=>?_;refine Q.wrapPO fun Kj39 hKj39=>?_;have hj39:∀(y40_c0:Z8),Z147_j39 s104_34 (Z147_l33 a1 a3 a4 x29 k_rec_91 n33) y40_c0=Kj39 y40_c0:=by
     intro y40_c0;refine Qe (hKj39 _) ?_;unfold Z147_j39;all_goals exact ih33 _ _ ⟨by omega,by omega⟩
    all_goals exact hj39 _
   refine Q.condO ?_ ?_
   ·refine Q.bindO rfl fun x51=>?_;refine Q.bindPO (Z106_eq _ _) fun x52 hx_x52=>?_;all_goals exact hj45 _ _
   all_goals exact hj45 _ _
  rw [dL (by omega),Z147_q33];refine QF hlt ?_;exact hend n33 s104_34 y35_c0
def Z147_qn:Nat->Z8->Z7->TRef->Bool->Bs->Option Z8
 | 0,_,_,_,_,_=>none
 | n+1,a0,a1,a2,a3,a4=>bif (decide (a1.FKind=(7:Int))) then(on (Z119_q a0.Fvars (fun y0=>Z148_q y0 a1)) fun x6=>guardO ((!(decide (x6<(0:Int)))&&a3)) (idxC a0.Fvars.l (if (0:Int)>x6 then(0:Int) else x6)) TVar.zero fun x7=>guardO ((!(decide (x6<(0:Int)))&&a3)) (Z140_q a0.Fd x7 a2 false) false fun x8=>(Z142_q a0 ((decide (x6<(0:Int)))||(a3&&(!x8))) (27:Int) a4).bind fun x9=>some x9) else(bif (decide (a1.FKind=(5:Int))) then((Z125_q a2).bind fun x13=>Option.bind (Z147_q16 a3 a4 x13 (Z147_qn n) a1.FItems.l a0) fun y18_c0=>some y18_c0) else(bif (decide (a1.FKind=(6:Int))) then(on (Z105_q a0.Fd a2.FName) fun x29=>Option.bind (Z147_q33 a1 a3 a4 x29 (Z147_qn n) a1.FItems.l 0 a0) fun y35_c0=>some y35_c0) else(some a0)))
theorem Z147_qall:∀n:Nat,Z147_n n=Z147_qn n:=by
 intro n;induction n with
 | zero=>exact(by funext a0 a1 a2 a3 a4; first|rfl|(rw [Z147_n,Z147_qn]))
 | succ n ih =>
  funext a0 a1 a2 a3 a4
  refine Qs ?_;rw [Z147_n,Z147_qn];try rw [ih]
  refine Q.condO ?_ ?_
  ·refine Q.bindPO (by simp only [Z148_eq,Z119_eq]) fun x6 hx_x6=>?_;refine Q.guardOO rfl fun x7=>?_;refine Q.guardOO (Z140_eq _ _ _ _) fun x8=>?_;refine Q.bindO (Z142_eq _ _ _ _) fun x9=>?_;all_goals rfl
  refine Q.condO ?_ ?_
  ·refine Q.bindO (Z125_eq _) fun x13=>?_;refine Q.wrapOO fun Kb16 hKb16=>?_;refine Z147_l16_qe  Kb16 ?_ _ _ _ ⟨Nat.succ_pos _,by omega⟩;intro n16 s66_17 y18_c0;refine Qe (hKb16 _) ?_;all_goals rfl
  refine Q.condO ?_ ?_
  ·refine Q.bindPO (Z105_eq _ _) fun x29 hx_x29=>?_;refine Q.wrapOO fun Kb33 hKb33=>?_;refine Z147_l33_qe  Kb33 ?_ _ _ _ ⟨Nat.succ_pos _,by omega⟩;intro n33 s104_34 y35_c0;refine Qe (hKb33 _) ?_;all_goals rfl
  all_goals rfl
def Z147_q (a0:Z8) (a1:Z7) (a2:TRef) (a3:Bool) (a4:Bs):Option Z8:=Z147_qn F0 a0 a1 a2 a3 a4
theorem Z147_eq (a0:Z8) (a1:Z7) (a2:TRef) (a3:Bool) (a4:Bs):Z147 a0 a1 a2 a3 a4=Z147_q a0 a1 a2 a3 a4:=by
 unfold Z147 Z147_q; rw [(Z147_qall F0)]
def Z129_q (a0:TRef):Option TRef:=on (Z127_q a0) fun x4=>bif x4 then((Z112_q a0.FWraps).bind fun x7=>some (TRef.mk a0.FName x7)) else((appC 8 (⟨false,[(1:Int)]⟩:Sl Int) a0.FWraps).bind fun x9=>some (TRef.mk a0.FName x9))
theorem Z129_eq (a0:TRef):Z129 a0=Z129_q a0:=by
 unfold Z129 Z129_q;refine Qs ?_;refine Q.bindPO (Z127_eq _) fun x4 hx_x4=>?_;refine Q.condO ?_ ?_
 ·refine Q.bindO (Z112_eq _) fun x7=>?_;all_goals rfl
 refine Q.bindO rfl fun x9=>?_;all_goals rfl
def Z128_q (a0:Bs):TRef:=(TRef.mk a0 (Sl.nil:Sl Int))
theorem Z128_eq (a0:Bs):Z128 a0=some (Z128_q a0):=by
 unfold Z128 Z128_q;all_goals rfl
def Z145_q15 (a2:Bs) (x12:TDir):List TArg->Z8->Option (Z8)
 | [],y17_c0=>some y17_c0
 | h15::r15,y17_c0=>on (h15) fun x23=>on (Z128_q ([66,111,111,108,101,97,110]:Bs)) fun x25=>(Z129_q x25).bind fun x26=>(Z147_q y17_c0 x23.FValue x26 (((x23.FName==([105,102]:Bs)))&&(((x12.FName==([115,107,105,112]:Bs)))||((x12.FName==([105,110,99,108,117,100,101]:Bs))))) a2).bind fun x27=>Z145_q15 a2 x12 (r15) x27
theorem Z145_l15_qe {a2:Bs}{s13_4:Nat}{x12:TDir}{k_next_3:Nat->Z8->Option Z8}  (Kb15:(Z8)->Option Z8) (hend:∀(n15:Nat) (s20_16:Nat) (y17_c0:Z8),Z145_j9 s13_4 k_next_3 y17_c0=Kb15 y17_c0):∀(n15:Nat) (s20_16:Nat) (y17_c0:Z8),(0<n15/\x12.FArgs.l.length<s20_16+n15)->Z145_l15 a2 s13_4 x12 k_next_3 n15 s20_16 y17_c0=Option.bind (Z145_q15 a2 x12 (x12.FArgs.l.drop s20_16) y17_c0) Kb15:=by
 intro n15;induction n15 with
 | zero=>intro s20_16 y17_c0 hn; exact absurd hn.1 (by omega)
 | succ n15 ih15 =>
  intro s20_16 y17_c0 hn;rw [Z145_l15];by_cases hlt:s20_16<x12.FArgs.l.length
  ·obtain⟨h15,hh15⟩:=Qa hlt;rw [Q.drop_of hh15,Z145_q15];refine QT hlt ?_;refine Q.bindPO hh15 fun x23 hx_x23=>?_;refine Q.bindPO (Z128_eq _) fun x25 hx_x25=>?_;refine Q.bindO (Z129_eq _) fun x26=>?_;refine Q.bindO (Z147_eq _ _ _ _ _) fun x27=>?_;all_goals exact ih15 _ _ ⟨by omega,by omega⟩
  rw [dL (by omega),Z145_q15];refine QF hlt ?_;exact hend n15 s20_16 y17_c0
def Z145_q3 (a2:Bs):List TDir->Z8->Option (Z8)
 | [],y5_c0=>some y5_c0
 | h3::r3,y5_c0=>on (h3) fun x12=>Option.bind (Z145_q15 a2 x12 x12.FArgs.l y5_c0) fun y17_c0=>on (y17_c0) fun y10_c0=>Z145_q3 a2 (r3) y10_c0
theorem Z145_l3_qe {a1:(Sl TDir)}{a2:Bs}  (Kb3:(Z8)->Option Z8) (hend:∀(n3:Nat) (s13_4:Nat) (y5_c0:Z8),some y5_c0=Kb3 y5_c0):∀(n3:Nat) (s13_4:Nat) (y5_c0:Z8),(0<n3/\a1.l.length<s13_4+n3)->Z145_l3 a1 a2 n3 s13_4 y5_c0=Option.bind (Z145_q3 a2 (a1.l.drop s13_4) y5_c0) Kb3:=by
 intro n3;induction n3 with
 | zero=>intro s13_4 y5_c0 hn; exact absurd hn.1 (by omega)
 | succ n3 ih3 =>
  intro s13_4 y5_c0 hn;rw [Z145_l3];by_cases hlt:s13_4<a1.l.length
  ·obtain⟨h3,hh3⟩:=Qa hlt;rw [Q.drop_of hh3,Z145_q3];refine QT hlt ?_;refine Q.bindPO hh3 fun x12 hx_x12=>?_;refine Q.wrapOO fun Kb15 hKb15=>?_;refine Z145_l15_qe  Kb15 ?_ _ _ _ ⟨Nat.succ_pos _,by omega⟩;intro n15 s20_16 y17_c0;refine Qe (hKb15 _) ?_;refine Q.wrapPO fun Kj9 hKj9=>?_;have hj9:∀(y10_c0:Z8),Z145_j9 s13_4 (Z145_l3 a1 a2 n3) y10_c0=Kj9 y10_c0:=by
    intro y10_c0;refine Qe (hKj9 _) ?_;unfold Z145_j9;all_goals exact ih3 _ _ ⟨by omega,by omega⟩
   all_goals exact hj9 _
  rw [dL (by omega),Z145_q3];refine QF hlt ?_;exact hend n3 s13_4 y5_c0
def Z145_q (a0:Z8) (a1:(Sl TDir)) (a2:Bs):Option Z8:=Option.bind (Z145_q3 a2 a1.l a0) fun y5_c0=>some y5_c0
theorem Z145_eq (a0:Z8) (a1:(Sl TDir)) (a2:Bs):Z145 a0 a1 a2=Z145_q a0 a1 a2:=by
 unfold Z145 Z145_q;refine Qs ?_;refine Q.wrapOO fun Kb3 hKb3=>?_;refine Z145_l3_qe  Kb3 ?_ _ _ _ ⟨Nat.succ_pos _,by omega⟩;intro n3 s13_4 y5_c0;refine Qe (hKb3 _) ?_;all_goals rfl
def Z103_q (a0:TDoc) (a1:Bs):Bool:=on (Z111_q a0 a1) fun x3=>on (Z110_q a1) fun x5=>((!x5)&&(((decide (x3=(1:Int)))||(decide (x3=(2:Int))))||(decide (x3=(3:Int)))))
theorem Z103_eq (a0:TDoc) (a1:Bs):Z103 a0 a1=some (Z103_q a0 a1):=by
 unfold Z103 Z103_q;refine Q.bindP (Z111_eq _ _) fun x3 hx_x3=>?_;refine Q.bindP (Z110_eq _) fun x5 hx_x5=>?_;all_goals rfl
def Z104_q7 (a1:Bs):List Z2->Unit ⊕ ((Z2×Bool))
 | []=>Sum.inl ()
 | h7::r7=>on (h7) fun x15=>bif ((x15.FName==a1)) then(Sum.inr (x15,true)) else(Z104_q7 a1 (r7) )
theorem Z104_l7_qe {a0:TDef}{a1:Bs}  (Kb7:(Unit ⊕ ((Z2×Bool)))->Option (Z2×Bool)) (hend:∀(n7:Nat) (s11_8:Nat) (y9_l0:Z2),Z104_j2   y9_l0=Kb7 (Sum.inl ())) (hret:∀e:(Z2×Bool),some e=Kb7 (Sum.inr e)):∀(n7:Nat) (s11_8:Nat) (y9_l0:Z2),(0<n7/\a0.FFields.l.length<s11_8+n7)->Z104_l7 a0 a1 n7 s11_8 y9_l0=Kb7 (Z104_q7 a1 (a0.FFields.l.drop s11_8) ):=by
 intro n7;induction n7 with
 | zero=>intro s11_8 y9_l0 hn; exact absurd hn.1 (by omega)
 | succ n7 ih7 =>
  intro s11_8 y9_l0 hn;rw [Z104_l7];by_cases hlt:s11_8<a0.FFields.l.length
  ·obtain⟨h7,hh7⟩:=Qa hlt;rw [Q.drop_of hh7,Z104_q7];refine QT hlt ?_;refine Q.bindP hh7 fun x15 hx_x15=>?_;refine Q.condP ?_ ?_
   ·all_goals exact hret _
   all_goals exact ih7 _ _ ⟨by omega,by omega⟩
  rw [dL (by omega),Z104_q7];refine QF hlt ?_;exact hend n7 s11_8 y9_l0
def Z104_q (a0:TDef) (a1:Bs):(Z2×Bool):=on (Z104_q7 a1 a0.FFields.l ) fun o7=>match o7 with|Sum.inl _=>(on (()) fun _=>((Z2.mk ([]:Bs) (Sl.nil:Sl Z4) TRef.zero (Sl.nil:Sl TDir)),false))|Sum.inr e7=>(e7)
theorem Z104_eq (a0:TDef) (a1:Bs):Z104 a0 a1=some (Z104_q a0 a1):=by
 unfold Z104 Z104_q;refine Q.wrapPP fun Kb7 hKb7=>?_;refine Z104_l7_qe  Kb7 ?_ ?_ _ _ _ ⟨Nat.succ_pos _,by omega⟩
 ·intro n7 s11_8 y9_l0;refine Qe (hKb7 _) ?_;try dsimp only
  refine Q.wrapPP fun Kj2 hKj2=>?_;have hj2:∀(y3_l0:Z2),Z104_j2  y3_l0=Kj2 ():=by
   intro y3_l0;refine Qe (hKj2 _) ?_;unfold Z104_j2;all_goals rfl
  all_goals exact hj2 _
 intro e7;refine Qe (hKb7 _) ?_;try dsimp only
 all_goals rfl
def vars_checker_sels_q3 (a2:Bs) (a3:Bs) (k_rec_18:Z8->(Sl TSel)->Bs->Bs->Option Z8) (k_rec_52:Z8->TSel->Bs->Bs->Option Z8):List TSel->Z8->Option (Z8)
 | [],y5_c0=>some y5_c0
 | h3::r3,y5_c0=>on (h3) fun x12=>Option.bind (bif (decide (x12.FKind=(2:Int))) then((Z145_q y5_c0 x12.FDirs a3).bind fun x16=>some x16) else(bif (decide (x12.FKind=(3:Int))) then((Z145_q y5_c0 x12.FDirs a3).bind fun x20=>on (bif (!(x12.FOn==([]:Bs))) then(x12.FOn) else(a2)) fun s10_23=>(k_rec_18 x20 x12.FSels s10_23 a3).bind fun x24=>some x24) else((k_rec_52 y5_c0 x12 a2 a3).bind fun x27=>some x27))) fun y10_c0=>vars_checker_sels_q3 a2 a3 k_rec_18 k_rec_52 (r3) y10_c0
theorem vars_checker_sels_l3_qe {a1:(Sl TSel)}{a2:Bs}{a3:Bs}{k_rec_18:Z8->(Sl TSel)->Bs->Bs->Option Z8}{k_rec_52:Z8->TSel->Bs->Bs->Option Z8}  (Kb3:(Z8)->Option Z8) (hend:∀(n3:Nat) (s13_4:Nat) (y5_c0:Z8),some y5_c0=Kb3 y5_c0):∀(n3:Nat) (s13_4:Nat) (y5_c0:Z8),(0<n3/\a1.l.length<s13_4+n3)->vars_checker_sels_l3 a1 a2 a3 k_rec_18 k_rec_52 n3 s13_4 y5_c0=Option.bind (vars_checker_sels_q3 a2 a3 k_rec_18 k_rec_52 (a1.l.drop s13_4) y5_c0) Kb3:=by
 intro n3;induction n3 with
 | zero=>intro s13_4 y5_c0 hn; exact absurd hn.1 (by omega)
 | succ n3 ih3 =>
  intro s13_4 y5_c0 hn;rw [vars_checker_sels_l3];by_cases hlt:s13_4<a1.l.length
  ·obtain⟨h3,hh3⟩:=Qa hlt;rw [Q.drop_of hh3,vars_checker_sels_q3];refine QT hlt ?_;refine Q.bindPO hh3 fun x12 hx_x12=>?_;refine Q.wrapOO fun Kj9 hKj9=>?_;have hj9:∀(y10_c0:Z8),vars_checker_sels_j9 s13_4 (vars_checker_sels_l3 a1 a2 a3 k_rec_18 k_rec_52 n3) y10_c0=Kj9 y10_c0:=by
    intro y10_c0;refine Qe (hKj9 _) ?_;unfold vars_checker_sels_j9;all_goals exact ih3 _ _ ⟨by omega,by omega⟩
   refine Q.condO ?_ ?_
   ·refine Q.bindO (Z145_eq _ _ _) fun x16=>?_;all_goals exact hj9 _
   refine Q.condO ?_ ?_
   ·refine Q.bindO (Z145_eq _ _ _) fun x20=>?_;refine Q.wrapPO fun Kj22 hKj22=>?_;have hj22:∀(s10_23:Bs),vars_checker_sels_j22 a3 s13_4 x12 x20 (vars_checker_sels_l3 a1 a2 a3 k_rec_18 k_rec_52 n3) k_rec_18 s10_23=Kj22 s10_23:=by
     intro s10_23;refine Qe (hKj22 _) ?_;unfold vars_checker_sels_j22;refine Q.bindO rfl fun x24=>?_;all_goals exact hj9 _
    refine Q.condP ?_ ?_
    ·all_goals exact hj22 _
    all_goals exact hj22 _
   refine Q.bindO rfl fun x27=>?_;all_goals exact hj9 _
  rw [dL (by omega),vars_checker_sels_q3];refine QF hlt ?_;exact hend n3 s13_4 y5_c0
def Z146_q18 (x7:Bs) (y10_l0:Z2):List TArg->Z8->Option (Z8)
 | [],y20_c0=>some y20_c0
 | h18::r18,y20_c0=>on (h18) fun x26=>on (Z106_q y10_l0.FArgs x26.FName) fun x28=>(Z147_q y20_c0 x26.FValue x28.1.FType x28.2 x7).bind fun x29=>Z146_q18 x7 y10_l0 (r18) x29
theorem Z146_l18_qe {a1:TSel}{x7:Bs}{y10_l0:Z2}{k_rec_18:Z8->(Sl TSel)->Bs->Bs->Option Z8}  (Kb18:(Z8)->Option Z8) (hend:∀(n18:Nat) (s54_19:Nat) (y20_c0:Z8),Z146_j11 a1 x7 y10_l0 k_rec_18 y20_c0=Kb18 y20_c0):∀(n18:Nat) (s54_19:Nat) (y20_c0:Z8),(0<n18/\a1.FArgs.l.length<s54_19+n18)->Z146_l18 a1 x7 y10_l0 k_rec_18 n18 s54_19 y20_c0=Option.bind (Z146_q18 x7 y10_l0 (a1.FArgs.l.drop s54_19) y20_c0) Kb18:=by
 intro n18;induction n18 with
 | zero=>intro s54_19 y20_c0 hn; exact absurd hn.1 (by omega)
 | succ n18 ih18 =>
  intro s54_19 y20_c0 hn;rw [Z146_l18];by_cases hlt:s54_19<a1.FArgs.l.length
  ·obtain⟨h18,hh18⟩:=Qa hlt;rw [Q.drop_of hh18,Z146_q18];refine QT hlt ?_;refine Q.bindPO hh18 fun x26 hx_x26=>?_;refine Q.bindPO (Z106_eq _ _) fun x28 hx_x28=>?_;refine Q.bindO (Z147_eq _ _ _ _ _) fun x29=>?_;all_goals exact ih18 _ _ ⟨by omega,by omega⟩
  rw [dL (by omega),Z146_q18];refine QF hlt ?_;exact hend n18 s54_19 y20_c0
mutual
def vars_checker_sels_qn:Nat->Z8->(Sl TSel)->Bs->Bs->Option Z8
 | 0,_,_,_,_=>none
 | n+1,a0,a1,a2,a3=>Option.bind (vars_checker_sels_q3 a2 a3 (vars_checker_sels_qn n) (Z146_qn n) a1.l a0) fun y5_c0=>some y5_c0
def Z146_qn:Nat->Z8->TSel->Bs->Bs->Option Z8
 | 0,_,_,_,_=>none
 | n+1,a0,a1,a2,a3=>on (bif ((a1.FAlias==([]:Bs))) then(a1.FName) else(a1.FAlias)) fun s8_4=>(catC ([47]:Bs) s8_4).bind fun x6=>(catC a3 x6).bind fun x7=>on (Z105_q a0.Fd a2) fun x31=>on (bif x31.2 then Z103_q a0.Fd a2 else false) fun x33=>on (bif (x31.2&&x33) then(on (Z104_q x31.1 a1.FName) fun x35=>x35.1) else(Z2.zero)) fun y10_l0=>Option.bind (Z146_q18 x7 y10_l0 a1.FArgs.l a0) fun y20_c0=>on (y20_c0) fun y12_c0=>(Z145_q y12_c0 a1.FDirs x7).bind fun x14=>((vars_checker_sels_qn n) x14 a1.FSels y10_l0.FType.FName x7).bind fun x15=>some x15
end
theorem vars_checker_sels_qall:∀n:Nat,vars_checker_sels_n n=vars_checker_sels_qn n/\Z146_n n=Z146_qn n:=by
 intro n;induction n with
 | zero=>exact⟨(by funext a0 a1 a2 a3; first|rfl|(rw [vars_checker_sels_n,vars_checker_sels_qn])),(by funext a0 a1 a2 a3; first|rfl|(rw [Z146_n,Z146_qn]))⟩
 | succ n ih =>
  refine⟨?_, ?_⟩
  ·funext a0 a1 a2 a3
   refine Qs ?_;rw [vars_checker_sels_n,vars_checker_sels_qn];try rw [ih.1]
   try rw [ih.2]
   refine Q.wrapOO fun Kb3 hKb3=>?_;refine vars_checker_sels_l3_qe  Kb3 ?_ _ _ _ ⟨Nat.succ_pos _,by omega⟩;intro n3 s13_4 y5_c0;refine Qe (hKb3 _) ?_;all_goals rfl
  funext a0 a1 a2 a3
  refine Qs ?_;rw [Z146_n,Z146_qn];try rw [ih.1]
  try rw [ih.2]
  refine Q.wrapPO fun Kj3 hKj3=>?_;have hj3:∀(s8_4:Bs),Z146_j3 a0 a1 a2 a3 (vars_checker_sels_qn n) s8_4=Kj3 s8_4:=by
   intro s8_4;refine Qe (hKj3 _) ?_;unfold Z146_j3;refine Q.bindO rfl fun x6=>?_;refine Q.bindO rfl fun x7=>?_;refine Q.bindPO (Z105_eq _ _) fun x31 hx_x31=>?_;refine Q.guardPO (Z103_eq _ _) fun x33 hx_x33=>?_;refine Q.wrapPO fun Kj9 hKj9=>?_;have hj9:∀(y10_l0:Z2),Z146_j9 a0 a1 x7 (vars_checker_sels_qn n) y10_l0=Kj9 y10_l0:=by
    intro y10_l0;refine Qe (hKj9 _) ?_;unfold Z146_j9;refine Q.wrapOO fun Kb18 hKb18=>?_;refine Z146_l18_qe  Kb18 ?_ _ _ _ ⟨Nat.succ_pos _,by omega⟩;intro n18 s54_19 y20_c0;refine Qe (hKb18 _) ?_;refine Q.wrapPO fun Kj11 hKj11=>?_;have hj11:∀(y12_c0:Z8),Z146_j11 a1 x7 y10_l0 (vars_checker_sels_qn n) y12_c0=Kj11 y12_c0:=by
     intro y12_c0;refine Qe (hKj11 _) ?_;unfold Z146_j11;refine Q.bindO (Z145_eq _ _ _) fun x14=>?_;refine Q.bindO rfl fun x15=>?_;all_goals rfl
    all_goals exact hj11 _
   refine Q.condP ?_ ?_
   ·refine Q.bindP (Z104_eq _ _) fun x35 hx_x35=>?_;all_goals exact hj9 _
   all_goals exact hj9 _
  refine Q.condP ?_ ?_
  ·all_goals exact hj3 _
  all_goals exact hj3 _
def vars_checker_sels_q (a0:Z8) (a1:(Sl TSel)) (a2:Bs) (a3:Bs):Option Z8:=vars_checker_sels_qn F0 a0 a1 a2 a3
theorem vars_checker_sels_eq (a0:Z8) (a1:(Sl TSel)) (a2:Bs) (a3:Bs):vars_checker_sels a0 a1 a2 a3=vars_checker_sels_q a0 a1 a2 a3:=by
 unfold vars_checker_sels vars_checker_sels_q; rw [(vars_checker_sels_qall F0).1]
def Z109_q (a0:Int):Bs:=bif (decide (a0=(1:Int))) then(([81,117,101,114,121]:Bs)) else(bif (decide (a0=(2:Int))) then(([77,117,116,97,116,105,111,110]:Bs)) else(bif (decide (a0=(3:Int))) then(([83,117,98,115,99,114,105,112,116,105,111,110]:Bs)) else(([]:Bs))))
theorem Z109_eq (a0:Int):Z109 a0=some (Z109_q a0):=by
 unfold Z109 Z109_q;refine Q.condP ?_ ?_
 ·all_goals rfl
 refine Q.condP ?_ ?_
 ·all_goals rfl
 refine Q.condP ?_ ?_
 ·all_goals rfl
 all_goals rfl
end Go.Proofs

namespace Go.Proofs
open Go Go.Ab
def Z21_q9 (a0:Z6) (k_rec_53:Z6->(Sl TSel)->(Sl Bs)->Option ((Sl Bs)×Bool)):List TSel->(Sl Bs)->Bool->Option (((Sl Bs)×Bool))
 | [],s2_10,s8_11=>some (s2_10,s8_11)
 | h9::r9,s2_10,s8_11=>on (h9) fun x20=>Option.bind (on (fun(s2_23:(Sl Bs)) (s8_24:Bool) (s11_25:(Sl TSel))=>(k_rec_53 a0 s11_25 s2_23).bind fun x28=>some (x28.1,(s8_24&&x28.2))) fun kj22=>bif (decide (x20.FKind=(2:Int))) then(on (Z18_q a0 x20.FName) fun x32=>on (bif !(!x32.2) then Z116_q s2_10 x20.FName else false) fun x36=>bif ((!x32.2)||x36) then(some (s2_10,(s8_11&&x32.2))) else((appC 16 s2_10 (⟨false,[x20.FName]⟩:Sl Bs)).bind fun x39=>kj22 x39 (s8_11&&x32.2) x32.1.FSels)) else(kj22 s2_10 s8_11 x20.FSels)) fun z16=>Z21_q9 a0 k_rec_53 (r9) z16.1 z16.2
theorem Z21_l9_qe {a0:Z6}{a1:(Sl TSel)}{k_rec_53:Z6->(Sl TSel)->(Sl Bs)->Option ((Sl Bs)×Bool)}  (Kb9:(((Sl Bs)×Bool))->Option ((Sl Bs)×Bool)) (hend:∀(n9:Nat) (s2_10:(Sl Bs)) (s8_11:Bool) (s17_12:Nat),Z21_j3   s2_10 s8_11=Kb9 (s2_10,s8_11)):∀(n9:Nat) (s2_10:(Sl Bs)) (s8_11:Bool) (s17_12:Nat),(0<n9/\a1.l.length<s17_12+n9)->Z21_l9 a0 a1 k_rec_53 n9 s2_10 s8_11 s17_12=Option.bind (Z21_q9 a0 k_rec_53 (a1.l.drop s17_12) s2_10 s8_11) Kb9:=by
 intro n9;induction n9 with
 | zero=>intro s2_10 s8_11 s17_12 hn; exact absurd hn.1 (by omega)
 | succ n9 ih9 =>
  intro s2_10 s8_11 s17_12 hn;rw [Z21_l9];by_cases hlt:s17_12<a1.l.length
  ·obtain⟨h9,hh9⟩:=Qa hlt;rw [Q.drop_of hh9,Z21_q9];refine QT hlt ?_;refine Q.bindPO hh9 fun x20 hx_x20=>?_;refine Q.wrapOO fun Kj16 hKj16=>?_;have hj16:∀(s2_17:(Sl Bs)) (s8_18:Bool),Z21_j16 s17_12 (Z21_l9 a0 a1 k_rec_53 n9) s2_17 s8_18=Kj16 (s2_17,s8_18):=by
    intro s2_17 s8_18;refine Qe (hKj16 _) ?_;try dsimp only
    unfold Z21_j16;all_goals exact ih9 _ _ _ ⟨by omega,by omega⟩
   refine Q.mixO fun kj22 hkj22=>?_;have hj22:∀(s2_23:(Sl Bs)) (s8_24:Bool) (s11_25:(Sl TSel)),Z21_j22 a0 s17_12 (Z21_l9 a0 a1 k_rec_53 n9) k_rec_53 s2_23 s8_24 s11_25=Option.bind (kj22 s2_23 s8_24 s11_25) Kj16:=by
    intro s2_23 s8_24 s11_25;unfold Z21_j22;rw [hkj22];try dsimp only
    refine Q.bindO rfl fun x28=>?_;all_goals exact hj16 _ _
   refine Q.condO ?_ ?_
   ·refine Q.bindPO (Z18_eq _ _) fun x32 hx_x32=>?_;refine Q.guardPO (Z116_eq _ _) fun x36 hx_x36=>?_;refine Q.condO ?_ ?_
    ·all_goals exact hj16 _ _
    refine Q.bindO rfl fun x39=>?_;all_goals exact hj22 _ _ _
   all_goals exact hj22 _ _ _
  rw [dL (by omega),Z21_q9];refine QF hlt ?_;exact hend n9 s2_10 s8_11 s17_12
def Z21_qn:Nat->Z6->(Sl TSel)->(Sl Bs)->Option ((Sl Bs)×Bool)
 | 0,_,_,_=>none
 | n+1,a0,a1,a2=>Option.bind (Z21_q9 a0 (Z21_qn n) a1.l a2 true) fun z9=>on ((z9.1,z9.2)) fun z3=>some (z3.1,z3.2)
theorem Z21_qall:∀n:Nat,Z21_n n=Z21_qn n:=by
 intro n;induction n with
 | zero=>exact(by funext a0 a1 a2; first|rfl|(rw [Z21_n,Z21_qn]))
 | succ n ih =>
  funext a0 a1 a2
  refine Qs ?_;rw [Z21_n,Z21_qn];try rw [ih]
  refine Q.wrapOO fun Kb9 hKb9=>?_;refine Z21_l9_qe  Kb9 ?_ _ _ _ _ ⟨Nat.succ_pos _,by omega⟩;intro n9 s2_10 s8_11 s17_12;refine Qe (hKb9 _) ?_;try dsimp only
  refine Q.wrapPO fun Kj3 hKj3=>?_;have hj3:∀(s2_4:(Sl Bs)) (s8_5:Bool),Z21_j3  s2_4 s8_5=Kj3 (s2_4,s8_5):=by
   intro s2_4 s8_5;refine Qe (hKj3 _) ?_;try dsimp only
   unfold Z21_j3;all_goals rfl
  all_goals exact hj3 _ _
def Z21_q (a0:Z6) (a1:(Sl TSel)) (a2:(Sl Bs)):Option ((Sl Bs)×Bool):=Z21_qn F0 a0 a1 a2
theorem Z21_eq (a0:Z6) (a1:(Sl TSel)) (a2:(Sl Bs)):Z21 a0 a1 a2=Z21_q a0 a1 a2:=by
 unfold Z21 Z21_q; rw [(Z21_qall F0)]
def Z20_q (a0:Z6) (a1:Z3):Option Bool:=(Z21_q a0 a1.FSels (Sl.nil:Sl Bs)).bind fun x4=>on (Z116_q x4.1 a1.FName) fun x6=>some x6
theorem Z20_eq (a0:Z6) (a1:Z3):Z20 a0 a1=Z20_q a0 a1:=by
 unfold Z20 Z20_q;refine Qs ?_;refine Q.bindO (Z21_eq _ _ _) fun x4=>?_;refine Q.bindPO (Z116_eq _ _) fun x6 hx_x6=>?_;all_goals rfl
def Z19_q10 (a0:Z6):List Bs->Bool->Option (Bool)
 | [],s7_11=>some s7_11
 | h10::r10,s7_11=>on (h10) fun x18=>on (Z18_q a0 x18) fun x20=>guardO (s7_11) (Z20_q a0 x20.1) false fun x21=>Z19_q10 a0 (r10) (s7_11&&(!x21))
theorem Z19_l10_qe {a0:Z6}{x4:((Sl Bs)×Bool)}  (Kb10:(Bool)->Option ((Sl Bs)×Bool)) (hend:∀(n10:Nat) (s7_11:Bool) (s20_12:Nat),Z19_j5 x4  s7_11=Kb10 s7_11):∀(n10:Nat) (s7_11:Bool) (s20_12:Nat),(0<n10/\x4.1.l.length<s20_12+n10)->Z19_l10 a0 x4 n10 s7_11 s20_12=Option.bind (Z19_q10 a0 (x4.1.l.drop s20_12) s7_11) Kb10:=by
 intro n10;induction n10 with
 | zero=>intro s7_11 s20_12 hn; exact absurd hn.1 (by omega)
 | succ n10 ih10 =>
  intro s7_11 s20_12 hn;rw [Z19_l10];by_cases hlt:s20_12<x4.1.l.length
  ·obtain⟨h10,hh10⟩:=Qa hlt;rw [Q.drop_of hh10,Z19_q10];refine QT hlt ?_;refine Q.bindPO hh10 fun x18 hx_x18=>?_;refine Q.bindPO (Z18_eq _ _) fun x20 hx_x20=>?_;refine Q.guardOO (Z20_eq _ _) fun x21=>?_;all_goals exact ih10 _ _ ⟨by omega,by omega⟩
  rw [dL (by omega),Z19_q10];refine QF hlt ?_;exact hend n10 s7_11 s20_12
def Z19_q (a0:Z6) (a1:(Sl TSel)):Option ((Sl Bs)×Bool):=(Z21_q a0 a1 (Sl.nil:Sl Bs)).bind fun x4=>Option.bind (Z19_q10 a0 x4.1.l x4.2) fun s7_11=>on (s7_11) fun s7_6=>some (x4.1,s7_6)
theorem Z19_eq (a0:Z6) (a1:(Sl TSel)):Z19 a0 a1=Z19_q a0 a1:=by
 unfold Z19 Z19_q;refine Qs ?_;refine Q.bindO (Z21_eq _ _ _) fun x4=>?_;refine Q.wrapOO fun Kb10 hKb10=>?_;refine Z19_l10_qe  Kb10 ?_ _ _ _ ⟨Nat.succ_pos _,by omega⟩;intro n10 s7_11 s20_12;refine Qe (hKb10 _) ?_;refine Q.wrapPO fun Kj5 hKj5=>?_;have hj5:∀(s7_6:Bool),Z19_j5 x4 s7_6=Kj5 s7_6:=by
  intro s7_6;refine Qe (hKj5 _) ?_;unfold Z19_j5;all_goals rfl
 all_goals exact hj5 _
def Z139_q31 (a1:Z6):List Bs->Z8->Option (Z8)
 | [],y33_id16_3=>some y33_id16_3
 | h31::r31,y33_id16_3=>on (h31) fun x39=>on (Z18_q a1 x39) fun x41=>(vars_checker_sels_q y33_id16_3 x41.1.FSels x41.1.FOn x41.1.FName).bind fun x42=>Z139_q31 a1 (r31) x42
theorem Z139_l31_qe {a1:Z6}{s20_11:Nat}{x28:((Sl Bs)×Bool)}{k_next_10:Nat->Z8->Option (Sl Z1)}  (Kb31:(Z8)->Option (Sl Z1)) (hend:∀(n31:Nat) (s54_32:Nat) (y33_id16_3:Z8),Z139_j16 s20_11 k_next_10 y33_id16_3=Kb31 y33_id16_3):∀(n31:Nat) (s54_32:Nat) (y33_id16_3:Z8),(0<n31/\x28.1.l.length<s54_32+n31)->Z139_l31 a1 s20_11 x28 k_next_10 n31 s54_32 y33_id16_3=Option.bind (Z139_q31 a1 (x28.1.l.drop s54_32) y33_id16_3) Kb31:=by
 intro n31;induction n31 with
 | zero=>intro s54_32 y33_id16_3 hn; exact absurd hn.1 (by omega)
 | succ n31 ih31 =>
  intro s54_32 y33_id16_3 hn;rw [Z139_l31];by_cases hlt:s54_32<x28.1.l.length
  ·obtain⟨h31,hh31⟩:=Qa hlt;rw [Q.drop_of hh31,Z139_q31];refine QT hlt ?_;refine Q.bindPO hh31 fun x39 hx_x39=>?_;refine Q.bindPO (Z18_eq _ _) fun x41 hx_x41=>?_;refine Q.bindO (vars_checker_sels_eq _ _ _ _) fun x42=>?_;all_goals exact ih31 _ _ ⟨by omega,by omega⟩
  rw [dL (by omega),Z139_q31];refine QF hlt ?_;exact hend n31 s54_32 y33_id16_3
def Z139_q10 (a1:Z6):List TOp->Nat->Z8->Option (Z8)
 | [],s20_11,y12_id16_3=>some y12_id16_3
 | h10::r10,s20_11,y12_id16_3=>on (h10) fun x19=>(Z141_q a1 ((s20_11:Nat):Int)).bind fun x22=>(Z143_q (Z8.mk y12_id16_3.Fd x19.FVars y12_id16_3.Fout) x19 x22).bind fun x23=>on (Z109_q x19.FKind) fun x25=>(vars_checker_sels_q x23 x19.FSels x25 x19.FName).bind fun x26=>(Z19_q a1 x19.FSels).bind fun x28=>Option.bind (Z139_q31 a1 x28.1.l x26) fun y33_id16_3=>on (y33_id16_3) fun y17_id16_3=>Z139_q10 a1 (r10) (s20_11+1) y17_id16_3
theorem Z139_l10_qe {a1:Z6}  (Kb10:(Z8)->Option (Sl Z1)) (hend:∀(n10:Nat) (s20_11:Nat) (y12_id16_3:Z8),Z139_j5   y12_id16_3=Kb10 y12_id16_3):∀(n10:Nat) (s20_11:Nat) (y12_id16_3:Z8),(0<n10/\a1.FOps.l.length<s20_11+n10)->Z139_l10 a1 n10 s20_11 y12_id16_3=Option.bind (Z139_q10 a1 (a1.FOps.l.drop s20_11) s20_11 y12_id16_3) Kb10:=by
 intro n10;induction n10 with
 | zero=>intro s20_11 y12_id16_3 hn; exact absurd hn.1 (by omega)
 | succ n10 ih10 =>
  intro s20_11 y12_id16_3 hn;rw [Z139_l10];by_cases hlt:s20_11<a1.FOps.l.length
  ·obtain⟨h10,hh10⟩:=Qa hlt;rw [Q.drop_of hh10,Z139_q10];refine QT hlt ?_;refine Q.bindPO hh10 fun x19 hx_x19=>?_;refine Q.bindO (Z141_eq _ _) fun x22=>?_;refine Q.bindO (Z143_eq _ _ _) fun x23=>?_;refine Q.bindPO (Z109_eq _) fun x25 hx_x25=>?_;refine Q.bindO (vars_checker_sels_eq _ _ _ _) fun x26=>?_;refine Q.bindO (Z19_eq _ _) fun x28=>?_;refine Q.wrapOO fun Kb31 hKb31=>?_;refine Z139_l31_qe  Kb31 ?_ _ _ _ ⟨Nat.succ_pos _,by omega⟩
   intro n31 s54_32 y33_id16_3;refine Qe (hKb31 _) ?_;refine Q.wrapPO fun Kj16 hKj16=>?_;have hj16:∀(y17_id16_3:Z8),Z139_j16 s20_11 (Z139_l10 a1 n10) y17_id16_3=Kj16 y17_id16_3:=by
    intro y17_id16_3;refine Qe (hKj16 _) ?_;unfold Z139_j16;all_goals exact ih10 _ _ ⟨by omega,by omega⟩
   all_goals exact hj16 _
  rw [dL (by omega),Z139_q10];refine QF hlt ?_;exact hend n10 s20_11 y12_id16_3
def Z139_q (a0:TDoc) (a1:Z6):Option (Sl Z1):=Option.bind (Z139_q10 a1 a1.FOps.l 0 (Z8.mk a0 (Sl.nil:Sl TVar) (Sl.nil:Sl Z1))) fun y12_id16_3=>on (y12_id16_3) fun y6_id16_3=>some y6_id16_3.Fout
theorem Z139_eq (a0:TDoc) (a1:Z6):Z139 a0 a1=Z139_q a0 a1:=by
 unfold Z139 Z139_q;refine Qs ?_;refine Q.wrapOO fun Kb10 hKb10=>?_;refine Z139_l10_qe  Kb10 ?_ _ _ _ ⟨Nat.succ_pos _,by omega⟩;intro n10 s20_11 y12_id16_3;refine Qe (hKb10 _) ?_;refine Q.wrapPO fun Kj5 hKj5=>?_;have hj5:∀(y6_id16_3:Z8),Z139_j5  y6_id16_3=Kj5 y6_id16_3:=by
  intro y6_id16_3;refine Qe (hKj5 _) ?_;unfold Z139_j5;all_goals rfl
 all_goals exact hj5 _
def Z52_q11 (a1:(Sl Z1)):List Z1->Nat->Option (Unit ⊕ Bool)
 | [],s5_12=>some (Sum.inl ())
 | h11::r11,s5_12=>on (h11) fun x19=>(a1.l[s5_12]?).bind fun x20=>bif (!(decide (x19.FErr=x20.FErr)&&((x19.FAt==x20.FAt)&&true))) then(some (Sum.inr false)) else(Z52_q11 a1 (r11) (s5_12+1) )
theorem Z52_l11_qe {a0:(Sl Z1)}{a1:(Sl Z1)}  (Kb11:(Unit ⊕ Bool)->Option Bool) (hend:∀(n11:Nat) (s5_12:Nat),Z52_j8   =Kb11 (Sum.inl ())) (hret:∀e:Bool,some e=Kb11 (Sum.inr e)):∀(n11:Nat) (s5_12:Nat),(0<n11/\a0.l.length<s5_12+n11)->Z52_l11 a0 a1 n11 s5_12=Option.bind (Z52_q11 a1 (a0.l.drop s5_12) s5_12 ) Kb11:=by
 intro n11;induction n11 with
 | zero=>intro s5_12 hn; exact absurd hn.1 (by omega)
 | succ n11 ih11 =>
  intro s5_12 hn;rw [Z52_l11];by_cases hlt:s5_12<a0.l.length
  ·obtain⟨h11,hh11⟩:=Qa hlt;rw [Q.drop_of hh11,Z52_q11];refine QT hlt ?_;refine Q.bindPO hh11 fun x19 hx_x19=>?_;refine Q.bindO rfl fun x20=>?_;refine Q.condO ?_ ?_
   ·all_goals exact hret _
   all_goals exact ih11 _ ⟨by omega,by omega⟩
  rw [dL (by omega),Z52_q11];refine QF hlt ?_;exact hend n11 s5_12
def Z52_q (a0:(Sl Z1)) (a1:(Sl Z1)):Option Bool:=bif (!decide (((a0.l.length:Nat):Int)=((a1.l.length:Nat):Int))) then(some false) else(Option.bind (Z52_q11 a1 a0.l 0 ) fun o11=>match o11 with|Sum.inl _=>(on (()) fun _=>some true)|Sum.inr e11=>(some e11))
theorem Z52_eq (a0:(Sl Z1)) (a1:(Sl Z1)):Z52 a0 a1=Z52_q a0 a1:=by
 unfold Z52 Z52_q;refine Qs ?_;refine Q.condO ?_ ?_
 ·all_goals rfl
 refine Q.wrapOO fun Kb11 hKb11=>?_;refine Z52_l11_qe  Kb11 ?_ ?_ _ _ ⟨Nat.succ_pos _,by omega⟩
 ·intro n11 s5_12;refine Qe (hKb11 _) ?_;try dsimp only
  refine Q.wrapPO fun Kj8 hKj8=>?_;have hj8:Z52_j8  =Kj8 ():=by
   refine Qe (hKj8 _) ?_;unfold Z52_j8;all_goals rfl
  all_goals exact hj8
 intro e11;refine Qe (hKb11 _) ?_;try dsimp only
 all_goals rfl
def Z100_q5 (a1:Bs):List Bs->Unit ⊕ Bool
 | []=>Sum.inl ()
 | h5::r5=>on (h5) fun x13=>bif ((x13==a1)) then(Sum.inr true) else(Z100_q5 a1 (r5) )
theorem Z100_l5_qe {a0:(Sl Bs)}{a1:Bs}  (Kb5:(Unit ⊕ Bool)->Option Bool) (hend:∀(n5:Nat) (s5_6:Nat),Z100_j2   =Kb5 (Sum.inl ())) (hret:∀e:Bool,some e=Kb5 (Sum.inr e)):∀(n5:Nat) (s5_6:Nat),(0<n5/\a0.l.length<s5_6+n5)->Z100_l5 a0 a1 n5 s5_6=Kb5 (Z100_q5 a1 (a0.l.drop s5_6) ):=by
 intro n5;induction n5 with
 | zero=>intro s5_6 hn; exact absurd hn.1 (by omega)
 | succ n5 ih5 =>
  intro s5_6 hn;rw [Z100_l5];by_cases hlt:s5_6<a0.l.length
  ·obtain⟨h5,hh5⟩:=Qa hlt;rw [Q.drop_of hh5,Z100_q5];refine QT hlt ?_;refine Q.bindP hh5 fun x13 hx_x13=>?_;refine Q.condP ?_ ?_
   ·all_goals exact hret _
   all_goals exact ih5 _ ⟨by omega,by omega⟩
  rw [dL (by omega),Z100_q5];refine QF hlt ?_;exact hend n5 s5_6
def Z100_q (a0:(Sl Bs)) (a1:Bs):Bool:=on (Z100_q5 a1 a0.l ) fun o5=>match o5 with|Sum.inl _=>(on (()) fun _=>false)|Sum.inr e5=>(e5)
theorem Z100_eq (a0:(Sl Bs)) (a1:Bs):Z100 a0 a1=some (Z100_q a0 a1):=by
 unfold Z100 Z100_q;refine Q.wrapPP fun Kb5 hKb5=>?_;refine Z100_l5_qe  Kb5 ?_ ?_ _ _ ⟨Nat.succ_pos _,by omega⟩
 ·intro n5 s5_6;refine Qe (hKb5 _) ?_;try dsimp only
  refine Q.wrapPP fun Kj2 hKj2=>?_;have hj2:Z100_j2  =Kj2 ():=by
   refine Qe (hKj2 _) ?_;unfold Z100_j2;all_goals rfl
  all_goals exact hj2
 intro e5;refine Qe (hKb5 _) ?_;try dsimp only
 all_goals rfl
def Z101_q16 (a0:Z7) (k_rec_58:Z7->(Sl Bs)->Option (Sl Bs)):List Z7->(Sl Bs)->Option ((Sl Bs))
 | [],s1_17=>some s1_17
 | h16::r16,s1_17=>bif ((decide (a0.FKind=(5:Int)))||(decide (a0.FKind=(6:Int)))) then(on (h16) fun x24=>(k_rec_58 x24 s1_17).bind fun x25=>Z101_q16 a0 k_rec_58 (r16) x25) else(some s1_17)
theorem Z101_l16_qe {a0:Z7}{k_rec_58:Z7->(Sl Bs)->Option (Sl Bs)}  (Kb16:((Sl Bs))->Option (Sl Bs)) (hend:∀(n16:Nat) (s1_17:(Sl Bs)) (s5_18:Nat),Z101_j12   s1_17=Kb16 s1_17):∀(n16:Nat) (s1_17:(Sl Bs)) (s5_18:Nat),(0<n16/\a0.FItems.l.length<s5_18+n16)->Z101_l16 a0 k_rec_58 n16 s1_17 s5_18=Option.bind (Z101_q16 a0 k_rec_58 (a0.FItems.l.drop s5_18) s1_17) Kb16:=by
 intro n16;induction n16 with
 | zero=>intro s1_17 s5_18 hn; exact absurd hn.1 (by omega)
 | succ n16 ih16 =>
  intro s1_17 s5_18 hn;rw [Z101_l16];by_cases hlt:s5_18<a0.FItems.l.length
  ·obtain⟨h16,hh16⟩:=Qa hlt;rw [Q.drop_of hh16,Z101_q16];refine Q.condAT (Q.ltT hlt) ?_;refine Q.condO ?_ ?_
   ·refine Q.bindPO hh16 fun x24 hx_x24=>?_;refine Q.bindO rfl fun x25=>?_;all_goals exact ih16 _ _ ⟨by omega,by omega⟩
   all_goals exact hend n16 s1_17 s5_18
  rw [dL (by omega),Z101_q16];refine Q.condAF (Q.ltF hlt) ?_;exact hend n16 s1_17 s5_18
def Z101_qn:Nat->Z7->(Sl Bs)->Option (Sl Bs)
 | 0,_,_=>none
 | n+1,a0,a1=>bif (decide (a0.FKind=(7:Int))) then(on (Z100_q a1 a0.FText) fun x9=>Option.bind (bif (!x9) then((appC 16 a1 (⟨false,[a0.FText]⟩:Sl Bs)).bind fun x11=>some x11) else(some a1)) fun s1_6=>some s1_6) else(Option.bind (Z101_q16 a0 (Z101_qn n) a0.FItems.l a1) fun s1_17=>on (s1_17) fun s1_13=>some s1_13)
theorem Z101_qall:∀n:Nat,Z101_n n=Z101_qn n:=by
 intro n;induction n with
 | zero=>exact(by funext a0 a1; first|rfl|(rw [Z101_n,Z101_qn]))
 | succ n ih =>
  funext a0 a1
  refine Qs ?_;rw [Z101_n,Z101_qn];try rw [ih]
  refine Q.condO ?_ ?_
  ·refine Q.bindPO (Z100_eq _ _) fun x9 hx_x9=>?_;refine Q.wrapOO fun Kj5 hKj5=>?_;have hj5:∀(s1_6:(Sl Bs)),Z101_j5  s1_6=Kj5 s1_6:=by
    intro s1_6;refine Qe (hKj5 _) ?_;unfold Z101_j5;all_goals rfl
   refine Q.condO ?_ ?_
   ·refine Q.bindO rfl fun x11=>?_;all_goals exact hj5 _
   all_goals exact hj5 _
  refine Q.wrapOO fun Kb16 hKb16=>?_;refine Z101_l16_qe  Kb16 ?_ _ _ _ ⟨Nat.succ_pos _,by omega⟩;intro n16 s1_17 s5_18;refine Qe (hKb16 _) ?_;refine Q.wrapPO fun Kj12 hKj12=>?_;have hj12:∀(s1_13:(Sl Bs)),Z101_j12  s1_13=Kj12 s1_13:=by
   intro s1_13;refine Qe (hKj12 _) ?_;unfold Z101_j12;all_goals rfl
  all_goals exact hj12 _
def Z101_q (a0:Z7) (a1:(Sl Bs)):Option (Sl Bs):=Z101_qn F0 a0 a1
theorem Z101_eq (a0:Z7) (a1:(Sl Bs)):Z101 a0 a1=Z101_q a0 a1:=by
 unfold Z101 Z101_q; rw [(Z101_qall F0)]
def Z102_q65 :List TArg->(Sl Bs)->Option ((Sl Bs))
 | [],s2_66=>some s2_66
 | h65::r65,s2_66=>on (h65) fun x73=>(Z101_q x73.FValue s2_66).bind fun x74=>Z102_q65  (r65) x74
theorem Z102_l65_qe {a0:Z6}{s3_9:(Sl Bs)}{s10_10:Nat}{x19:TSel}{k_next_7:(Sl Bs)->(Sl Bs)->Nat->Option ((Sl Bs)×(Sl Bs))}{k_rec_25:Z6->(Sl TSel)->(Sl Bs)->(Sl Bs)->Option ((Sl Bs)×(Sl Bs))}  (Kb65:((Sl Bs))->Option ((Sl Bs)×(Sl Bs))) (hend:∀(n65:Nat) (s2_66:(Sl Bs)) (s12_67:Nat),Z102_j20 a0 s3_9 s10_10 x19 k_next_7 k_rec_25 s2_66=Kb65 s2_66):∀(n65:Nat) (s2_66:(Sl Bs)) (s12_67:Nat),(0<n65/\x19.FArgs.l.length<s12_67+n65)->Z102_l65 a0 s3_9 s10_10 x19 k_next_7 k_rec_25 n65 s2_66 s12_67=Option.bind (Z102_q65  (x19.FArgs.l.drop s12_67) s2_66) Kb65:=by
 intro n65;induction n65 with
 | zero=>intro s2_66 s12_67 hn; exact absurd hn.1 (by omega)
 | succ n65 ih65 =>
  intro s2_66 s12_67 hn;rw [Z102_l65];by_cases hlt:s12_67<x19.FArgs.l.length
  ·obtain⟨h65,hh65⟩:=Qa hlt;rw [Q.drop_of hh65,Z102_q65];refine QT hlt ?_;refine Q.bindPO hh65 fun x73 hx_x73=>?_;refine Q.bindO (Z101_eq _ _) fun x74=>?_;all_goals exact ih65 _ _ ⟨by omega,by omega⟩
  rw [dL (by omega),Z102_q65];refine QF hlt ?_;exact hend n65 s2_66 s12_67
def Z102_q52 (h42:TDir):List TArg->(Sl Bs)->Option ((Sl Bs))
 | [],s2_53=>some s2_53
 | h52::r52,s2_53=>on (h42) fun x61=>on (h52) fun x62=>(Z101_q x62.FValue s2_53).bind fun x63=>Z102_q52 h42 (r52) x63
theorem Z102_l52_qe {x19:TSel}{s13_44:Nat}{k_next_42:(Sl Bs)->Nat->Option ((Sl Bs)×(Sl Bs))}{h42:TDir}(hh42:x19.FDirs.l[s13_44]?=some h42) (Kb52:((Sl Bs))->Option ((Sl Bs)×(Sl Bs))) (hend:∀(n52:Nat) (s2_53:(Sl Bs)) (s14_54:Nat),Z102_j49 s13_44 k_next_42 s2_53=Kb52 s2_53):∀(n52:Nat) (s2_53:(Sl Bs)) (s14_54:Nat),(0<n52/\h42.FArgs.l.length<s14_54+n52)->Z102_l52 x19 s13_44 k_next_42 n52 s2_53 s14_54=Option.bind (Z102_q52 h42 (h42.FArgs.l.drop s14_54) s2_53) Kb52:=by
 intro n52;induction n52 with
 | zero=>intro s2_53 s14_54 hn; exact absurd hn.1 (by omega)
 | succ n52 ih52 =>
  intro s2_53 s14_54 hn;rw [Z102_l52];refine Q.preB hh42 fun x57 hx_x57=>?_;subst hx_x57;by_cases hlt:s14_54<x57.FArgs.l.length
  ·obtain⟨h52,hh52⟩:=Qa hlt;rw [Q.drop_of hh52,Z102_q52];refine QT hlt ?_;refine Q.bindPO hh42 fun x61 hx_x61=>?_;refine Q.bindPO (by first|exact hh52|(simp only [hx_x61]; exact hh52)|(simp only [hx_x61] at hh52 ⊢; exact hh52)) fun x62 hx_x62=>?_;refine Q.bindO (Z101_eq _ _) fun x63=>?_;all_goals exact ih52 _ _ ⟨by omega,by omega⟩
  rw [dL (by omega),Z102_q52];refine QF hlt ?_;exact hend n52 s2_53 s14_54
def Z102_q42 :List TDir->(Sl Bs)->Option ((Sl Bs))
 | [],s2_43=>some s2_43
 | h42::r42,s2_43=>Option.bind (Z102_q52 h42 h42.FArgs.l s2_43) fun s2_53=>on (s2_53) fun s2_50=>Z102_q42  (r42) s2_50
theorem Z102_l42_qe {a0:Z6}{s3_9:(Sl Bs)}{s10_10:Nat}{x19:TSel}{k_next_7:(Sl Bs)->(Sl Bs)->Nat->Option ((Sl Bs)×(Sl Bs))}{k_rec_25:Z6->(Sl TSel)->(Sl Bs)->(Sl Bs)->Option ((Sl Bs)×(Sl Bs))}  (Kb42:((Sl Bs))->Option ((Sl Bs)×(Sl Bs))) (hend:∀(n42:Nat) (s2_43:(Sl Bs)) (s13_44:Nat),Z102_j22 a0 s3_9 s10_10 x19 k_next_7 k_rec_25 s2_43=Kb42 s2_43):∀(n42:Nat) (s2_43:(Sl Bs)) (s13_44:Nat),(0<n42/\x19.FDirs.l.length<s13_44+n42)->Z102_l42 a0 s3_9 s10_10 x19 k_next_7 k_rec_25 n42 s2_43 s13_44=Option.bind (Z102_q42  (x19.FDirs.l.drop s13_44) s2_43) Kb42:=by
 intro n42;induction n42 with
 | zero=>intro s2_43 s13_44 hn; exact absurd hn.1 (by omega)
 | succ n42 ih42 =>
  intro s2_43 s13_44 hn;rw [Z102_l42];by_cases hlt:s13_44<x19.FDirs.l.length
  ·obtain⟨h42,hh42⟩:=Qa hlt;rw [Q.drop_of hh42,Z102_q42];refine QT hlt ?_;refine Q.wrapOO fun Kb52 hKb52=>?_;refine Z102_l52_qe hh42 Kb52 ?_ _ _ _ ⟨by rw [hh42]; exact Nat.succ_pos _,by rw [hh42]; simp only [Option.elim]; omega⟩;intro n52 s2_53 s14_54;refine Qe (hKb52 _) ?_;refine Q.wrapPO fun Kj49 hKj49=>?_;have hj49:∀(s2_50:(Sl Bs)),Z102_j49 s13_44 (Z102_l42 a0 s3_9 s10_10 x19 k_next_7 k_rec_25 n42) s2_50=Kj49 s2_50:=by
    intro s2_50;refine Qe (hKj49 _) ?_;unfold Z102_j49;all_goals exact ih42 _ _ ⟨by omega,by omega⟩
   all_goals exact hj49 _
  rw [dL (by omega),Z102_q42];refine QF hlt ?_;exact hend n42 s2_43 s13_44
def Z102_q7 (a0:Z6) (k_rec_25:Z6->(Sl TSel)->(Sl Bs)->(Sl Bs)->Option ((Sl Bs)×(Sl Bs))):List TSel->(Sl Bs)->(Sl Bs)->Option (((Sl Bs)×(Sl Bs)))
 | [],s2_8,s3_9=>some (s2_8,s3_9)
 | h7::r7,s2_8,s3_9=>on (h7) fun x19=>Option.bind (Z102_q65  x19.FArgs.l s2_8) fun s2_66=>on (s2_66) fun s2_21=>Option.bind (Z102_q42  x19.FDirs.l s2_21) fun s2_43=>on (s2_43) fun s2_23=>Option.bind (on (fun(s3_26:(Sl Bs)) (s15_27:(Sl TSel))=>(k_rec_25 a0 s15_27 s2_23 s3_26).bind fun x29=>some (x29.1,x29.2)) fun kj25=>bif (decide (x19.FKind=(2:Int))) then(on (Z86_q a0 x19.FName) fun x34=>on (bif !(!x34.2) then Z100_q s3_9 x19.FName else false) fun x37=>bif ((!x34.2)||x37) then(some (s2_23,s3_9)) else((appC 16 s3_9 (⟨false,[x19.FName]⟩:Sl Bs)).bind fun x40=>kj25 x40 x34.1.FSels)) else(kj25 s3_9 x19.FSels)) fun z15=>Z102_q7 a0 k_rec_25 (r7) z15.1 z15.2
theorem Z102_l7_qe {a0:Z6}{a1:(Sl TSel)}{k_rec_25:Z6->(Sl TSel)->(Sl Bs)->(Sl Bs)->Option ((Sl Bs)×(Sl Bs))}  (Kb7:(((Sl Bs)×(Sl Bs)))->Option ((Sl Bs)×(Sl Bs))) (hend:∀(n7:Nat) (s2_8:(Sl Bs)) (s3_9:(Sl Bs)) (s10_10:Nat),Z102_j2   s2_8 s3_9=Kb7 (s2_8,s3_9)):∀(n7:Nat) (s2_8:(Sl Bs)) (s3_9:(Sl Bs)) (s10_10:Nat),(0<n7/\a1.l.length<s10_10+n7)->Z102_l7 a0 a1 k_rec_25 n7 s2_8 s3_9 s10_10=Option.bind (Z102_q7 a0 k_rec_25 (a1.l.drop s10_10) s2_8 s3_9) Kb7:=by
 intro n7;induction n7 with
 | zero=>intro s2_8 s3_9 s10_10 hn; exact absurd hn.1 (by omega)
 | succ n7 ih7 =>
  intro s2_8 s3_9 s10_10 hn;rw [Z102_l7];by_cases hlt:s10_10<a1.l.length
  ·obtain⟨h7,hh7⟩:=Qa hlt;rw [Q.drop_of hh7,Z102_q7];refine QT hlt ?_;refine Q.bindPO hh7 fun x19 hx_x19=>?_;refine Q.wrapOO fun Kb65 hKb65=>?_;refine Z102_l65_qe  Kb65 ?_ _ _ _ ⟨Nat.succ_pos _,by omega⟩;intro n65 s2_66 s12_67;refine Qe (hKb65 _) ?_;refine Q.wrapPO fun Kj20 hKj20=>?_;have hj20:∀(s2_21:(Sl Bs)),Z102_j20 a0 s3_9 s10_10 x19 (Z102_l7 a0 a1 k_rec_25 n7) k_rec_25 s2_21=Kj20 s2_21:=by
    intro s2_21;refine Qe (hKj20 _) ?_;unfold Z102_j20;refine Q.wrapOO fun Kb42 hKb42=>?_;refine Z102_l42_qe  Kb42 ?_ _ _ _ ⟨Nat.succ_pos _,by omega⟩;intro n42 s2_43 s13_44;refine Qe (hKb42 _) ?_;refine Q.wrapPO fun Kj22 hKj22=>?_;have hj22:∀(s2_23:(Sl Bs)),Z102_j22 a0 s3_9 s10_10 x19 (Z102_l7 a0 a1 k_rec_25 n7) k_rec_25 s2_23=Kj22 s2_23:=by
     intro s2_23;refine Qe (hKj22 _) ?_;unfold Z102_j22;refine Q.wrapOO fun Kj15 hKj15=>?_;have hj15:∀(s2_16:(Sl Bs)) (s3_17:(Sl Bs)),Z102_j15 s10_10 (Z102_l7 a0 a1 k_rec_25 n7) s2_16 s3_17=Kj15 (s2_16,s3_17):=by
      intro s2_16 s3_17;refine Qe (hKj15 _) ?_;try dsimp only
      unfold Z102_j15;all_goals exact ih7 _ _ _ ⟨by omega,by omega⟩
     refine Q.mixO fun kj25 hkj25=>?_;have hj25:∀(s3_26:(Sl Bs)) (s15_27:(Sl TSel)),Z102_j25 a0 s10_10 s2_23 (Z102_l7 a0 a1 k_rec_25 n7) k_rec_25 s3_26 s15_27=Option.bind (kj25 s3_26 s15_27) Kj15:=by
      intro s3_26 s15_27;unfold Z102_j25;rw [hkj25];try dsimp only
      refine Q.bindO rfl fun x29=>?_;all_goals exact hj15 _ _
     refine Q.condO ?_ ?_
     ·refine Q.bindPO (Z86_eq _ _) fun x34 hx_x34=>?_;refine Q.guardPO (Z100_eq _ _) fun x37 hx_x37=>?_;refine Q.condO ?_ ?_
      ·all_goals exact hj15 _ _
      refine Q.bindO rfl fun x40=>?_;all_goals exact hj25 _ _
     all_goals exact hj25 _ _
    all_goals exact hj22 _
   all_goals exact hj20 _
  rw [dL (by omega),Z102_q7];refine QF hlt ?_;exact hend n7 s2_8 s3_9 s10_10
def Z102_qn:Nat->Z6->(Sl TSel)->(Sl Bs)->(Sl Bs)->Option ((Sl Bs)×(Sl Bs))
 | 0,_,_,_,_=>none
 | n+1,a0,a1,a2,a3=>Option.bind (Z102_q7 a0 (Z102_qn n) a1.l a2 a3) fun z7=>on ((z7.1,z7.2)) fun z2=>some (z2.1,z2.2)
theorem Z102_qall:∀n:Nat,Z102_n n=Z102_qn n:=by
 intro n;induction n with
 | zero=>exact(by funext a0 a1 a2 a3; first|rfl|(rw [Z102_n,Z102_qn]))
 | succ n ih =>
  funext a0 a1 a2 a3
  refine Qs ?_;rw [Z102_n,Z102_qn];try rw [ih]
  refine Q.wrapOO fun Kb7 hKb7=>?_;refine Z102_l7_qe  Kb7 ?_ _ _ _ _ ⟨Nat.succ_pos _,by omega⟩;intro n7 s2_8 s3_9 s10_10;refine Qe (hKb7 _) ?_;try dsimp only
  refine Q.wrapPO fun Kj2 hKj2=>?_;have hj2:∀(s2_3:(Sl Bs)) (s3_4:(Sl Bs)),Z102_j2  s2_3 s3_4=Kj2 (s2_3,s3_4):=by
   intro s2_3 s3_4;refine Qe (hKj2 _) ?_;try dsimp only
   unfold Z102_j2;all_goals rfl
  all_goals exact hj2 _ _
def Z102_q (a0:Z6) (a1:(Sl TSel)) (a2:(Sl Bs)) (a3:(Sl Bs)):Option ((Sl Bs)×(Sl Bs)):=Z102_qn F0 a0 a1 a2 a3
theorem Z102_eq (a0:Z6) (a1:(Sl TSel)) (a2:(Sl Bs)) (a3:(Sl Bs)):Z102 a0 a1 a2 a3=Z102_q a0 a1 a2 a3:=by
 unfold Z102 Z102_q; rw [(Z102_qall F0)]
def Z99_q (a0:Z6) (a1:Int):Option (Sl Bs):=bif ((decide (a1<(0:Int)))||(decide (((a0.FOps.l.length:Nat):Int)<=a1))) then(some (Sl.nil:Sl Bs)) else((idxC a0.FOps.l a1).bind fun x9=>(Z102_q a0 x9.FSels (Sl.nil:Sl Bs) (Sl.nil:Sl Bs)).bind fun x10=>some x10.1)
theorem Z99_eq (a0:Z6) (a1:Int):Z99 a0 a1=Z99_q a0 a1:=by
 unfold Z99 Z99_q;refine Qs ?_;refine Q.condO ?_ ?_
 ·all_goals rfl
 refine Q.bindO rfl fun x9=>?_;refine Q.bindO (Z102_eq _ _ _ _) fun x10=>?_;all_goals rfl
end Go.Proofs
