import Derived.Test.YtpihaonmljdogaaGreatDoorV5
set_option maxRecDepth 100000
set_option maxHeartbeats 2000000
set_option linter.unusedVariables false
set_option linter.unusedSimpArgs false
namespace Go.Proofs
open Go Go.Ab
def Z47_q23 (a1:Int):List Bs->Int->Option (Int)
 | [],s5_24=>some s5_24
 | h23::r23,s5_24=>bif (decide (s5_24<=a1)) then((addC s5_24 (1:Int)).bind fun x31=>on (h23) fun x32=>(addC x31 ((x32.length:Nat):Int)).bind fun x34=>Z47_q23 a1 (r23) x34) else(some s5_24)
theorem Z47_l23_qe {a0:Z7}{a1:Int}{k_rec_52:Z7->Int->Option Int}  (Kb23:(Int)->Option Int) (hend:∀(n23:Nat) (s5_24:Int) (s6_25:Nat),Z47_j5 a0 a1 k_rec_52 s5_24=Kb23 s5_24):∀(n23:Nat) (s5_24:Int) (s6_25:Nat),(0<n23/\a0.FKeys.l.length<s6_25+n23)->Z47_l23 a0 a1 k_rec_52 n23 s5_24 s6_25=Option.bind (Z47_q23 a1 (a0.FKeys.l.drop s6_25) s5_24) Kb23:=by
 intro n23;induction n23 with
 | zero=>intro s5_24 s6_25 hn; exact absurd hn.1 (by omega)
 | succ n23 ih23 =>
  intro s5_24 s6_25 hn;rw [Z47_l23];by_cases hlt:s6_25<a0.FKeys.l.length
  ·obtain⟨h23,hh23⟩:=Qa hlt;rw [Q.drop_of hh23,Z47_q23];refine Q.condAT (Q.ltT hlt) ?_;refine Q.condO ?_ ?_
   ·refine Q.bindO rfl fun x31=>?_;refine Q.bindPO hh23 fun x32 hx_x32=>?_;refine Q.bindO rfl fun x34=>?_;all_goals exact ih23 _ _ ⟨by omega,by omega⟩
   all_goals exact hend n23 s5_24 s6_25
  rw [dL (by omega),Z47_q23];refine Q.condAF (Q.ltF hlt) ?_;exact hend n23 s5_24 s6_25
def Z47_q11 (a1:Int) (k_rec_52:Z7->Int->Option Int):List Z7->Int->Option (Int)
 | [],s5_12=>some s5_12
 | h11::r11,s5_12=>bif (decide (s5_12<=a1)) then(on (h11) fun x19=>(k_rec_52 x19 a1).bind fun x20=>(addC s5_12 x20).bind fun x21=>Z47_q11 a1 k_rec_52 (r11) x21) else(some s5_12)
theorem Z47_l11_qe {a0:Z7}{a1:Int}{k_rec_52:Z7->Int->Option Int}  (Kb11:(Int)->Option Int) (hend:∀(n11:Nat) (s5_12:Int) (s7_13:Nat),Z47_j7   s5_12=Kb11 s5_12):∀(n11:Nat) (s5_12:Int) (s7_13:Nat),(0<n11/\a0.FItems.l.length<s7_13+n11)->Z47_l11 a0 a1 k_rec_52 n11 s5_12 s7_13=Option.bind (Z47_q11 a1 k_rec_52 (a0.FItems.l.drop s7_13) s5_12) Kb11:=by
 intro n11;induction n11 with
 | zero=>intro s5_12 s7_13 hn; exact absurd hn.1 (by omega)
 | succ n11 ih11 =>
  intro s5_12 s7_13 hn;rw [Z47_l11];by_cases hlt:s7_13<a0.FItems.l.length
  ·obtain⟨h11,hh11⟩:=Qa hlt;rw [Q.drop_of hh11,Z47_q11];refine Q.condAT (Q.ltT hlt) ?_;refine Q.condO ?_ ?_
   ·refine Q.bindPO hh11 fun x19 hx_x19=>?_;refine Q.bindO rfl fun x20=>?_;refine Q.bindO rfl fun x21=>?_;all_goals exact ih11 _ _ ⟨by omega,by omega⟩
   all_goals exact hend n11 s5_12 s7_13
  rw [dL (by omega),Z47_q11];refine Q.condAF (Q.ltF hlt) ?_;exact hend n11 s5_12 s7_13
def Z47_qn:Nat->Z7->Int->Option Int
 | 0,_,_=>none
 | n+1,a0,a1=>(addC (1:Int) ((a0.FText.length:Nat):Int)).bind fun x4=>Option.bind (Z47_q23 a1 a0.FKeys.l x4) fun s5_24=>on (s5_24) fun s5_6=>Option.bind (Z47_q11 a1 (Z47_qn n) a0.FItems.l s5_6) fun s5_12=>on (s5_12) fun s5_8=>some s5_8
theorem Z47_qall:∀n:Nat,Z47_n n=Z47_qn n:=by
 intro n;induction n with
 | zero=>exact(by funext a0 a1; first|rfl|(rw [Z47_n,Z47_qn]))
 | succ n ih =>
  funext a0 a1
  refine Qs ?_;rw [Z47_n,Z47_qn];try rw [ih]
  refine Q.bindO rfl fun x4=>?_;refine Q.wrapOO fun Kb23 hKb23=>?_;refine Z47_l23_qe  Kb23 ?_ _ _ _ ⟨Nat.succ_pos _,by omega⟩;intro n23 s5_24 s6_25;refine Qe (hKb23 _) ?_;refine Q.wrapPO fun Kj5 hKj5=>?_;have hj5:∀(s5_6:Int),Z47_j5 a0 a1 (Z47_qn n) s5_6=Kj5 s5_6:=by
   intro s5_6;refine Qe (hKj5 _) ?_;unfold Z47_j5;refine Q.wrapOO fun Kb11 hKb11=>?_;refine Z47_l11_qe  Kb11 ?_ _ _ _ ⟨Nat.succ_pos _,by omega⟩;intro n11 s5_12 s7_13;refine Qe (hKb11 _) ?_;refine Q.wrapPO fun Kj7 hKj7=>?_;have hj7:∀(s5_8:Int),Z47_j7  s5_8=Kj7 s5_8:=by
    intro s5_8;refine Qe (hKj7 _) ?_;unfold Z47_j7;all_goals rfl
   all_goals exact hj7 _
  all_goals exact hj5 _
def Z47_q (a0:Z7) (a1:Int):Option Int:=Z47_qn F0 a0 a1
theorem Z47_eq (a0:Z7) (a1:Int):Z47 a0 a1=Z47_q a0 a1:=by
 unfold Z47 Z47_q; rw [(Z47_qall F0)]
def Z65_q19 (a1:Int) (h7:TDir):List TArg->Int->Option (Int)
 | [],s5_20=>some s5_20
 | h19::r19,s5_20=>bif (decide (s5_20<=a1)) then((addC s5_20 (1:Int)).bind fun x28=>on (h7) fun x29=>on (h19) fun x30=>(Z47_q x30.FValue a1).bind fun x31=>(addC x28 x31).bind fun x32=>Z65_q19 a1 h7 (r19) x32) else(some s5_20)
theorem Z65_l19_qe {a0:(Sl TDir)}{a1:Int}{s6_9:Nat}{k_next_7:Int->Nat->Option Int}{h7:TDir}(hh7:a0.l[s6_9]?=some h7) (Kb19:(Int)->Option Int) (hend:∀(n19:Nat) (s5_20:Int) (s7_21:Nat),Z65_j14 s6_9 k_next_7 s5_20=Kb19 s5_20):∀(n19:Nat) (s5_20:Int) (s7_21:Nat),(0<n19/\h7.FArgs.l.length<s7_21+n19)->Z65_l19 a0 a1 s6_9 k_next_7 n19 s5_20 s7_21=Option.bind (Z65_q19 a1 h7 (h7.FArgs.l.drop s7_21) s5_20) Kb19:=by
 intro n19;induction n19 with
 | zero=>intro s5_20 s7_21 hn; exact absurd hn.1 (by omega)
 | succ n19 ih19 =>
  intro s5_20 s7_21 hn;rw [Z65_l19];refine Q.preB hh7 fun x24 hx_x24=>?_;subst hx_x24;by_cases hlt:s7_21<x24.FArgs.l.length
  ·obtain⟨h19,hh19⟩:=Qa hlt;rw [Q.drop_of hh19,Z65_q19];refine Q.condAT (Q.ltT hlt) ?_;refine Q.condO ?_ ?_
   ·refine Q.bindO rfl fun x28=>?_;refine Q.bindPO hh7 fun x29 hx_x29=>?_;refine Q.bindPO (by first|exact hh19|(simp only [hx_x29]; exact hh19)|(simp only [hx_x29] at hh19 ⊢; exact hh19)) fun x30 hx_x30=>?_;refine Q.bindO (Z47_eq _ _) fun x31=>?_;refine Q.bindO rfl fun x32=>?_;all_goals exact ih19 _ _ ⟨by omega,by omega⟩
   all_goals exact hend n19 s5_20 s7_21
  rw [dL (by omega),Z65_q19];refine Q.condAF (Q.ltF hlt) ?_;exact hend n19 s5_20 s7_21
def Z65_q7 (a1:Int):List TDir->Int->Option (Int)
 | [],s5_8=>some s5_8
 | h7::r7,s5_8=>bif (decide (s5_8<=a1)) then((addC s5_8 (1:Int)).bind fun x17=>Option.bind (Z65_q19 a1 h7 h7.FArgs.l x17) fun s5_20=>on (s5_20) fun s5_15=>Z65_q7 a1 (r7) s5_15) else(some s5_8)
theorem Z65_l7_qe {a0:(Sl TDir)}{a1:Int}  (Kb7:(Int)->Option Int) (hend:∀(n7:Nat) (s5_8:Int) (s6_9:Nat),Z65_j3   s5_8=Kb7 s5_8):∀(n7:Nat) (s5_8:Int) (s6_9:Nat),(0<n7/\a0.l.length<s6_9+n7)->Z65_l7 a0 a1 n7 s5_8 s6_9=Option.bind (Z65_q7 a1 (a0.l.drop s6_9) s5_8) Kb7:=by
 intro n7;induction n7 with
 | zero=>intro s5_8 s6_9 hn; exact absurd hn.1 (by omega)
 | succ n7 ih7 =>
  intro s5_8 s6_9 hn;rw [Z65_l7];by_cases hlt:s6_9<a0.l.length
  ·obtain⟨h7,hh7⟩:=Qa hlt;rw [Q.drop_of hh7,Z65_q7];refine Q.condAT (Q.ltT hlt) ?_;refine Q.condO ?_ ?_
   ·refine Q.bindO rfl fun x17=>?_;refine Q.wrapOO fun Kb19 hKb19=>?_;refine Z65_l19_qe hh7 Kb19 ?_ _ _ _ ⟨by rw [hh7]; exact Nat.succ_pos _,by rw [hh7]; simp only [Option.elim]; omega⟩;intro n19 s5_20 s7_21;refine Qe (hKb19 _) ?_;refine Q.wrapPO fun Kj14 hKj14=>?_;have hj14:∀(s5_15:Int),Z65_j14 s6_9 (Z65_l7 a0 a1 n7) s5_15=Kj14 s5_15:=by
     intro s5_15;refine Qe (hKj14 _) ?_;unfold Z65_j14;all_goals exact ih7 _ _ ⟨by omega,by omega⟩
    all_goals exact hj14 _
   all_goals exact hend n7 s5_8 s6_9
  rw [dL (by omega),Z65_q7];refine Q.condAF (Q.ltF hlt) ?_;exact hend n7 s5_8 s6_9
def Z65_q (a0:(Sl TDir)) (a1:Int):Option Int:=Option.bind (Z65_q7 a1 a0.l (0:Int)) fun s5_8=>on (s5_8) fun s5_4=>some s5_4
theorem Z65_eq (a0:(Sl TDir)) (a1:Int):Z65 a0 a1=Z65_q a0 a1:=by
 unfold Z65 Z65_q;refine Qs ?_;refine Q.wrapOO fun Kb7 hKb7=>?_;refine Z65_l7_qe  Kb7 ?_ _ _ _ ⟨Nat.succ_pos _,by omega⟩;intro n7 s5_8 s6_9;refine Qe (hKb7 _) ?_;refine Q.wrapPO fun Kj3 hKj3=>?_;have hj3:∀(s5_4:Int),Z65_j3  s5_4=Kj3 s5_4:=by
  intro s5_4;refine Qe (hKj3 _) ?_;unfold Z65_j3;all_goals rfl
 all_goals exact hj3 _
def Z66_q7 (a1:Int):List Z5->Int->Option (Int)
 | [],s5_8=>some s5_8
 | h7::r7,s5_8=>bif (decide (s5_8<=a1)) then((addC s5_8 (1:Int)).bind fun x15=>on (h7) fun x16=>(addC x15 ((x16.FType.FWraps.l.length:Nat):Int)).bind fun x17=>on (h7) fun x18=>(Z47_q x18.FDefault a1).bind fun x19=>(addC x17 x19).bind fun x20=>on (h7) fun x21=>(Z65_q x21.FDirs a1).bind fun x22=>(addC x20 x22).bind fun x23=>Z66_q7 a1 (r7) x23) else(some s5_8)
theorem Z66_l7_qe {a0:(Sl Z5)}{a1:Int}  (Kb7:(Int)->Option Int) (hend:∀(n7:Nat) (s5_8:Int) (s6_9:Nat),Z66_j3   s5_8=Kb7 s5_8):∀(n7:Nat) (s5_8:Int) (s6_9:Nat),(0<n7/\a0.l.length<s6_9+n7)->Z66_l7 a0 a1 n7 s5_8 s6_9=Option.bind (Z66_q7 a1 (a0.l.drop s6_9) s5_8) Kb7:=by
 intro n7;induction n7 with
 | zero=>intro s5_8 s6_9 hn; exact absurd hn.1 (by omega)
 | succ n7 ih7 =>
  intro s5_8 s6_9 hn;rw [Z66_l7];by_cases hlt:s6_9<a0.l.length
  ·obtain⟨h7,hh7⟩:=Qa hlt;rw [Q.drop_of hh7,Z66_q7];refine Q.condAT (Q.ltT hlt) ?_;refine Q.condO ?_ ?_
   ·refine Q.bindO rfl fun x15=>?_;refine Q.bindPO hh7 fun x16 hx_x16=>?_;refine Q.bindO rfl fun x17=>?_;refine Q.bindPO hh7 fun x18 hx_x18=>?_;refine Q.bindO (Z47_eq _ _) fun x19=>?_;refine Q.bindO rfl fun x20=>?_;refine Q.bindPO hh7 fun x21 hx_x21=>?_;refine Q.bindO (Z65_eq _ _) fun x22=>?_;refine Q.bindO rfl fun x23=>?_;all_goals exact ih7 _ _ ⟨by omega,by omega⟩
   all_goals exact hend n7 s5_8 s6_9
  rw [dL (by omega),Z66_q7];refine Q.condAF (Q.ltF hlt) ?_;exact hend n7 s5_8 s6_9
def Z66_q (a0:(Sl Z5)) (a1:Int):Option Int:=Option.bind (Z66_q7 a1 a0.l (0:Int)) fun s5_8=>on (s5_8) fun s5_4=>some s5_4
theorem Z66_eq (a0:(Sl Z5)) (a1:Int):Z66 a0 a1=Z66_q a0 a1:=by
 unfold Z66 Z66_q;refine Qs ?_;refine Q.wrapOO fun Kb7 hKb7=>?_;refine Z66_l7_qe  Kb7 ?_ _ _ _ ⟨Nat.succ_pos _,by omega⟩;intro n7 s5_8 s6_9;refine Qe (hKb7 _) ?_;refine Q.wrapPO fun Kj3 hKj3=>?_;have hj3:∀(s5_4:Int),Z66_j3  s5_4=Kj3 s5_4:=by
  intro s5_4;refine Qe (hKj3 _) ?_;unfold Z66_j3;all_goals rfl
 all_goals exact hj3 _
def Z57_q41 (a1:Int):List Z4->Int->Option (Int)
 | [],s5_42=>some s5_42
 | h41::r41,s5_42=>bif (decide (s5_42<=a1)) then((addC s5_42 (1:Int)).bind fun x49=>on (h41) fun x50=>(addC x49 ((x50.FType.FWraps.l.length:Nat):Int)).bind fun x51=>on (h41) fun x52=>(Z66_q x52.FArgs a1).bind fun x53=>(addC x51 x53).bind fun x54=>on (h41) fun x55=>(Z65_q x55.FDirs a1).bind fun x56=>(addC x54 x56).bind fun x57=>Z57_q41 a1 (r41) x57) else(some s5_42)
theorem Z57_l41_qe {a1:Int}{s6_10:Nat}{x18:TDef}{k_next_8:Int->Nat->Option Int}  (Kb41:(Int)->Option Int) (hend:∀(n41:Nat) (s5_42:Int) (s8_43:Nat),Z57_j25 a1 s6_10 x18 k_next_8 s5_42=Kb41 s5_42):∀(n41:Nat) (s5_42:Int) (s8_43:Nat),(0<n41/\x18.FFields.l.length<s8_43+n41)->Z57_l41 a1 s6_10 x18 k_next_8 n41 s5_42 s8_43=Option.bind (Z57_q41 a1 (x18.FFields.l.drop s8_43) s5_42) Kb41:=by
 intro n41;induction n41 with
 | zero=>intro s5_42 s8_43 hn; exact absurd hn.1 (by omega)
 | succ n41 ih41 =>
  intro s5_42 s8_43 hn;rw [Z57_l41];by_cases hlt:s8_43<x18.FFields.l.length
  ·obtain⟨h41,hh41⟩:=Qa hlt;rw [Q.drop_of hh41,Z57_q41];refine Q.condAT (Q.ltT hlt) ?_;refine Q.condO ?_ ?_
   ·refine Q.bindO rfl fun x49=>?_;refine Q.bindPO hh41 fun x50 hx_x50=>?_;refine Q.bindO rfl fun x51=>?_;refine Q.bindPO hh41 fun x52 hx_x52=>?_;refine Q.bindO (Z66_eq _ _) fun x53=>?_;refine Q.bindO rfl fun x54=>?_;refine Q.bindPO hh41 fun x55 hx_x55=>?_;refine Q.bindO (Z65_eq _ _) fun x56=>?_;refine Q.bindO rfl fun x57=>?_;all_goals exact ih41 _ _ ⟨by omega,by omega⟩
   all_goals exact hend n41 s5_42 s8_43
  rw [dL (by omega),Z57_q41];refine Q.condAF (Q.ltF hlt) ?_;exact hend n41 s5_42 s8_43
def Z57_q28 (a1:Int):List Z6->Int->Option (Int)
 | [],s5_29=>some s5_29
 | h28::r28,s5_29=>bif (decide (s5_29<=a1)) then((addC s5_29 (1:Int)).bind fun x36=>on (h28) fun x37=>(Z65_q x37.FDirs a1).bind fun x38=>(addC x36 x38).bind fun x39=>Z57_q28 a1 (r28) x39) else(some s5_29)
theorem Z57_l28_qe {a1:Int}{s6_10:Nat}{x18:TDef}{k_next_8:Int->Nat->Option Int}  (Kb28:(Int)->Option Int) (hend:∀(n28:Nat) (s5_29:Int) (s9_30:Nat),Z57_j15 s6_10 k_next_8 s5_29=Kb28 s5_29):∀(n28:Nat) (s5_29:Int) (s9_30:Nat),(0<n28/\x18.FMembers.l.length<s9_30+n28)->Z57_l28 a1 s6_10 x18 k_next_8 n28 s5_29 s9_30=Option.bind (Z57_q28 a1 (x18.FMembers.l.drop s9_30) s5_29) Kb28:=by
 intro n28;induction n28 with
 | zero=>intro s5_29 s9_30 hn; exact absurd hn.1 (by omega)
 | succ n28 ih28 =>
  intro s5_29 s9_30 hn;rw [Z57_l28];by_cases hlt:s9_30<x18.FMembers.l.length
  ·obtain⟨h28,hh28⟩:=Qa hlt;rw [Q.drop_of hh28,Z57_q28];refine Q.condAT (Q.ltT hlt) ?_;refine Q.condO ?_ ?_
   ·refine Q.bindO rfl fun x36=>?_;refine Q.bindPO hh28 fun x37 hx_x37=>?_;refine Q.bindO (Z65_eq _ _) fun x38=>?_;refine Q.bindO rfl fun x39=>?_;all_goals exact ih28 _ _ ⟨by omega,by omega⟩
   all_goals exact hend n28 s5_29 s9_30
  rw [dL (by omega),Z57_q28];refine Q.condAF (Q.ltF hlt) ?_;exact hend n28 s5_29 s9_30
def Z57_q8 (a1:Int):List TDef->Int->Option (Int)
 | [],s5_9=>some s5_9
 | h8::r8,s5_9=>bif (decide (s5_9<=a1)) then(on (h8) fun x18=>(addC s5_9 ((x18.FImplements.l.length:Nat):Int)).bind fun x20=>(Z65_q x18.FDirs a1).bind fun x21=>(addC x20 x21).bind fun x22=>(Z66_q x18.FInputs a1).bind fun x23=>(addC x22 x23).bind fun x24=>Option.bind (Z57_q41 a1 x18.FFields.l x24) fun s5_42=>on (s5_42) fun s5_26=>Option.bind (Z57_q28 a1 x18.FMembers.l s5_26) fun s5_29=>on (s5_29) fun s5_16=>Z57_q8 a1 (r8) s5_16) else(some s5_9)
theorem Z57_l8_qe {a0:TDoc}{a1:Int}  (Kb8:(Int)->Option Int) (hend:∀(n8:Nat) (s5_9:Int) (s6_10:Nat),Z57_j4   s5_9=Kb8 s5_9):∀(n8:Nat) (s5_9:Int) (s6_10:Nat),(0<n8/\a0.FDefs.l.length<s6_10+n8)->Z57_l8 a0 a1 n8 s5_9 s6_10=Option.bind (Z57_q8 a1 (a0.FDefs.l.drop s6_10) s5_9) Kb8:=by
 intro n8;induction n8 with
 | zero=>intro s5_9 s6_10 hn; exact absurd hn.1 (by omega)
 | succ n8 ih8 =>
  intro s5_9 s6_10 hn;rw [Z57_l8];by_cases hlt:s6_10<a0.FDefs.l.length
  ·obtain⟨h8,hh8⟩:=Qa hlt;rw [Q.drop_of hh8,Z57_q8];refine Q.condAT (Q.ltT hlt) ?_;refine Q.condO ?_ ?_
   ·refine Q.bindPO hh8 fun x18 hx_x18=>?_;refine Q.bindO rfl fun x20=>?_;refine Q.bindO (Z65_eq _ _) fun x21=>?_;refine Q.bindO rfl fun x22=>?_;refine Q.bindO (Z66_eq _ _) fun x23=>?_;refine Q.bindO rfl fun x24=>?_;refine Q.wrapOO fun Kb41 hKb41=>?_;refine Z57_l41_qe  Kb41 ?_ _ _ _ ⟨Nat.succ_pos _,by omega⟩;intro n41 s5_42 s8_43;refine Qe (hKb41 _) ?_;refine Q.wrapPO fun Kj25 hKj25=>?_;have hj25:∀(s5_26:Int),Z57_j25 a1 s6_10 x18 (Z57_l8 a0 a1 n8) s5_26=Kj25 s5_26:=by
     intro s5_26;refine Qe (hKj25 _) ?_;unfold Z57_j25;refine Q.wrapOO fun Kb28 hKb28=>?_;refine Z57_l28_qe  Kb28 ?_ _ _ _ ⟨Nat.succ_pos _,by omega⟩;intro n28 s5_29 s9_30;refine Qe (hKb28 _) ?_;refine Q.wrapPO fun Kj15 hKj15=>?_;have hj15:∀(s5_16:Int),Z57_j15 s6_10 (Z57_l8 a0 a1 n8) s5_16=Kj15 s5_16:=by
      intro s5_16;refine Qe (hKj15 _) ?_;unfold Z57_j15;all_goals exact ih8 _ _ ⟨by omega,by omega⟩
     all_goals exact hj15 _
    all_goals exact hj25 _
   all_goals exact hend n8 s5_9 s6_10
  rw [dL (by omega),Z57_q8];refine Q.condAF (Q.ltF hlt) ?_;exact hend n8 s5_9 s6_10
def Z57_q (a0:TDoc) (a1:Int):Option Int:=Option.bind (Z57_q8 a1 a0.FDefs.l ((a0.FDefs.l.length:Nat):Int)) fun s5_9=>on (s5_9) fun s5_5=>some s5_5
theorem Z57_eq (a0:TDoc) (a1:Int):Z57 a0 a1=Z57_q a0 a1:=by
 unfold Z57 Z57_q;refine Qs ?_;refine Q.wrapOO fun Kb8 hKb8=>?_;refine Z57_l8_qe  Kb8 ?_ _ _ _ ⟨Nat.succ_pos _,by omega⟩;intro n8 s5_9 s6_10;refine Qe (hKb8 _) ?_;refine Q.wrapPO fun Kj4 hKj4=>?_;have hj4:∀(s5_5:Int),Z57_j4  s5_5=Kj4 s5_5:=by
  intro s5_5;refine Qe (hKj4 _) ?_;unfold Z57_j4;all_goals rfl
 all_goals exact hj4 _
def Z40_q (a0:Int):Bool:=((((decide ((65:Int)<=a0))&&(decide (a0<=(90:Int))))||((decide ((97:Int)<=a0))&&(decide (a0<=(122:Int)))))||(decide (a0=(95:Int))))
theorem Z40_eq (a0:Int):Z40 a0=some (Z40_q a0):=by
 unfold Z40 Z40_q;all_goals rfl
def Z39_q (a0:Int):Bool:=((decide ((48:Int)<=a0))&&(decide (a0<=(57:Int))))
theorem Z39_eq (a0:Int):Z39 a0=some (Z39_q a0):=by
 unfold Z39 Z39_q;all_goals rfl
def Z37_q10 :List UInt8->Nat->Unit ⊕ Bool
 | [],s3_11=>Sum.inl ()
 | h10::r10,s3_11=>on (h10) fun x18=>on (Z40_q ((x18.toNat:Nat):Int)) fun x19=>on (bif ((!x19)&&!(decide (((s3_11:Nat):Int)=(0:Int)))) then h10 else(0:UInt8)) fun x20=>on (bif ((!x19)&&!(decide (((s3_11:Nat):Int)=(0:Int)))) then Z39_q ((x20.toNat:Nat):Int) else false) fun x21=>bif ((!x19)&&((decide (((s3_11:Nat):Int)=(0:Int)))||(!x21))) then(Sum.inr false) else(Z37_q10  (r10) (s3_11+1) )
theorem Z37_l10_qe {a0:Bs}  (Kb10:(Unit ⊕ Bool)->Option Bool) (hend:∀(n10:Nat) (s3_11:Nat),Z37_j7   =Kb10 (Sum.inl ())) (hret:∀e:Bool,some e=Kb10 (Sum.inr e)):∀(n10:Nat) (s3_11:Nat),(0<n10/\a0.length<s3_11+n10)->Z37_l10 a0 n10 s3_11=Kb10 (Z37_q10  (a0.drop s3_11) s3_11 ):=by
 intro n10;induction n10 with
 | zero=>intro s3_11 hn; exact absurd hn.1 (by omega)
 | succ n10 ih10 =>
  intro s3_11 hn;rw [Z37_l10];by_cases hlt:s3_11<a0.length
  ·obtain⟨h10,hh10⟩:=Qa hlt;rw [Q.drop_of hh10,Z37_q10];refine QT hlt ?_;refine Q.bindP hh10 fun x18 hx_x18=>?_;refine Q.bindP (Z40_eq _) fun x19 hx_x19=>?_;refine Q.guardP hh10 fun x20 hx_x20=>?_;refine Q.guardP (Z39_eq _) fun x21 hx_x21=>?_;refine Q.condP ?_ ?_
   ·all_goals exact hret _
   all_goals exact ih10 _ ⟨by omega,by omega⟩
  rw [dL (by omega),Z37_q10];refine QF hlt ?_;exact hend n10 s3_11
def Z37_q (a0:Bs):Bool:=bif ((decide (((a0.length:Nat):Int)<(1:Int)))||(decide ((64:Int)<((a0.length:Nat):Int)))) then(false) else(on (Z37_q10  a0 0 ) fun o10=>match o10 with|Sum.inl _=>(on (()) fun _=>true)|Sum.inr e10=>(e10))
theorem Z37_eq (a0:Bs):Z37 a0=some (Z37_q a0):=by
 unfold Z37 Z37_q;refine Q.condP ?_ ?_
 ·all_goals rfl
 refine Q.wrapPP fun Kb10 hKb10=>?_;refine Z37_l10_qe  Kb10 ?_ ?_ _ _ ⟨Nat.succ_pos _,by omega⟩
 ·intro n10 s3_11;refine Qe (hKb10 _) ?_;try dsimp only
  refine Q.wrapPP fun Kj7 hKj7=>?_;have hj7:Z37_j7  =Kj7 ():=by
   refine Qe (hKj7 _) ?_;unfold Z37_j7;all_goals rfl
  all_goals exact hj7
 intro e10;refine Qe (hKb10 _) ?_;try dsimp only
 all_goals rfl
def Z43_q7 (k_rec_121:Z7->Option Int):List Z7->Int->Option (Int)
 | [],s3_8=>some s3_8
 | h7::r7,s3_8=>on (h7) fun x15=>(k_rec_121 x15).bind fun x16=>(addC s3_8 x16).bind fun x17=>Z43_q7 k_rec_121 (r7) x17
theorem Z43_l7_qe {a0:Z7}{k_rec_121:Z7->Option Int}  (Kb7:(Int)->Option Int) (hend:∀(n7:Nat) (s3_8:Int) (s4_9:Nat),Z43_j3   s3_8=Kb7 s3_8):∀(n7:Nat) (s3_8:Int) (s4_9:Nat),(0<n7/\a0.FItems.l.length<s4_9+n7)->Z43_l7 a0 k_rec_121 n7 s3_8 s4_9=Option.bind (Z43_q7 k_rec_121 (a0.FItems.l.drop s4_9) s3_8) Kb7:=by
 intro n7;induction n7 with
 | zero=>intro s3_8 s4_9 hn; exact absurd hn.1 (by omega)
 | succ n7 ih7 =>
  intro s3_8 s4_9 hn;rw [Z43_l7];by_cases hlt:s4_9<a0.FItems.l.length
  ·obtain⟨h7,hh7⟩:=Qa hlt;rw [Q.drop_of hh7,Z43_q7];refine QT hlt ?_;refine Q.bindPO hh7 fun x15 hx_x15=>?_;refine Q.bindO rfl fun x16=>?_;refine Q.bindO rfl fun x17=>?_;all_goals exact ih7 _ _ ⟨by omega,by omega⟩
  rw [dL (by omega),Z43_q7];refine QF hlt ?_;exact hend n7 s3_8 s4_9
def Z43_qn:Nat->Z7->Option Int
 | 0,_=>none
 | n+1,a0=>Option.bind (Z43_q7 (Z43_qn n) a0.FItems.l (1:Int)) fun s3_8=>on (s3_8) fun s3_4=>some s3_4
theorem Z43_qall:∀n:Nat,Z43_n n=Z43_qn n:=by
 intro n;induction n with
 | zero=>exact(by funext a0; first|rfl|(rw [Z43_n,Z43_qn]))
 | succ n ih =>
  funext a0
  refine Qs ?_;rw [Z43_n,Z43_qn];try rw [ih]
  refine Q.wrapOO fun Kb7 hKb7=>?_;refine Z43_l7_qe  Kb7 ?_ _ _ _ ⟨Nat.succ_pos _,by omega⟩;intro n7 s3_8 s4_9;refine Qe (hKb7 _) ?_;refine Q.wrapPO fun Kj3 hKj3=>?_;have hj3:∀(s3_4:Int),Z43_j3  s3_4=Kj3 s3_4:=by
   intro s3_4;refine Qe (hKj3 _) ?_;unfold Z43_j3;all_goals rfl
  all_goals exact hj3 _
def Z43_q (a0:Z7):Option Int:=Z43_qn F0 a0
theorem Z43_eq (a0:Z7):Z43 a0=Z43_q a0:=by
 unfold Z43 Z43_q; rw [(Z43_qall F0)]
def Z41_q8 (k_rec_122:Z7->Option Int):List Z7->Int->Option (Int)
 | [],s3_9=>some s3_9
 | h8::r8,s3_9=>on (h8) fun x16=>(k_rec_122 x16).bind fun x17=>Z41_q8 k_rec_122 (r8) (if x17>s3_9 then x17 else s3_9)
theorem Z41_l8_qe {a0:Z7}{k_rec_122:Z7->Option Int}  (Kb8:(Int)->Option Int) (hend:∀(n8:Nat) (s3_9:Int) (s4_10:Nat),Z41_j3   s3_9=Kb8 s3_9):∀(n8:Nat) (s3_9:Int) (s4_10:Nat),(0<n8/\a0.FItems.l.length<s4_10+n8)->Z41_l8 a0 k_rec_122 n8 s3_9 s4_10=Option.bind (Z41_q8 k_rec_122 (a0.FItems.l.drop s4_10) s3_9) Kb8:=by
 intro n8;induction n8 with
 | zero=>intro s3_9 s4_10 hn; exact absurd hn.1 (by omega)
 | succ n8 ih8 =>
  intro s3_9 s4_10 hn;rw [Z41_l8];by_cases hlt:s4_10<a0.FItems.l.length
  ·obtain⟨h8,hh8⟩:=Qa hlt;rw [Q.drop_of hh8,Z41_q8];refine QT hlt ?_;refine Q.bindPO hh8 fun x16 hx_x16=>?_;refine Q.bindO rfl fun x17=>?_;all_goals exact ih8 _ _ ⟨by omega,by omega⟩
  rw [dL (by omega),Z41_q8];refine QF hlt ?_;exact hend n8 s3_9 s4_10
def Z41_qn:Nat->Z7->Option Int
 | 0,_=>none
 | n+1,a0=>Option.bind (Z41_q8 (Z41_qn n) a0.FItems.l (0:Int)) fun s3_9=>on (s3_9) fun s3_4=>(addC s3_4 (1:Int)).bind fun x6=>some x6
theorem Z41_qall:∀n:Nat,Z41_n n=Z41_qn n:=by
 intro n;induction n with
 | zero=>exact(by funext a0; first|rfl|(rw [Z41_n,Z41_qn]))
 | succ n ih =>
  funext a0
  refine Qs ?_;rw [Z41_n,Z41_qn];try rw [ih]
  refine Q.wrapOO fun Kb8 hKb8=>?_;refine Z41_l8_qe  Kb8 ?_ _ _ _ ⟨Nat.succ_pos _,by omega⟩;intro n8 s3_9 s4_10;refine Qe (hKb8 _) ?_;refine Q.wrapPO fun Kj3 hKj3=>?_;have hj3:∀(s3_4:Int),Z41_j3  s3_4=Kj3 s3_4:=by
   intro s3_4;refine Qe (hKj3 _) ?_;unfold Z41_j3;refine Q.bindO rfl fun x6=>?_;all_goals rfl
  all_goals exact hj3 _
def Z41_q (a0:Z7):Option Int:=Z41_qn F0 a0
theorem Z41_eq (a0:Z7):Z41 a0=Z41_q a0:=by
 unfold Z41 Z41_q; rw [(Z41_qall F0)]
def Z45_q13 (a0:(Sl Bs)) (h5:Bs):Nat->Nat->Option (Unit ⊕ Bool)
 | 0,s4_14=>some (Sum.inl ())
 | r13+1,s4_14=>on (h5) fun x20=>(a0.l[s4_14]?).bind fun x21=>bif ((x20==x21)) then(some (Sum.inr true)) else(Z45_q13 a0 h5 (r13) (s4_14+1) )
theorem Z45_l13_qe {a0:(Sl Bs)}{s3_6:Nat}{k_next_5:Nat->Option Bool}{h5:Bs}(hh5:a0.l[s3_6]?=some h5) (Kb13:(Unit ⊕ Bool)->Option Bool) (hend:∀(n13:Nat) (s4_14:Nat),Z45_j11 s3_6 k_next_5 =Kb13 (Sum.inl ())) (hret:∀e:Bool,some e=Kb13 (Sum.inr e)):∀(n13:Nat) (s4_14:Nat),(0<n13/\s3_6<s4_14+n13)->Z45_l13 a0 s3_6 k_next_5 n13 s4_14=Option.bind (Z45_q13 a0 h5 (s3_6-s4_14) s4_14 ) Kb13:=by
 intro n13;induction n13 with
 | zero=>intro s4_14 hn; exact absurd hn.1 (by omega)
 | succ n13 ih13 =>
  intro s4_14 hn;rw [Z45_l13];by_cases hlt:s4_14<s3_6
  ·rw [show s3_6-s4_14=(s3_6-(s4_14+1))+1 by omega,Z45_q13];refine QT hlt ?_;refine Q.bindPO hh5 fun x20 hx_x20=>?_;refine Q.bindO rfl fun x21=>?_;refine Q.condO ?_ ?_
   ·all_goals exact hret _
   all_goals exact ih13 _ ⟨by omega,by omega⟩
  rw [show s3_6-s4_14=0 by omega,Z45_q13];refine QF hlt ?_;exact hend n13 s4_14
def Z45_q5 (a0:(Sl Bs)):List Bs->Nat->Option (Unit ⊕ Bool)
 | [],s3_6=>some (Sum.inl ())
 | h5::r5,s3_6=>Option.bind (Z45_q13 a0 h5 s3_6 0 ) fun o13=>match o13 with|Sum.inl _=>(on (()) fun _=>Z45_q5 a0 (r5) (s3_6+1) )|Sum.inr e13=>(some (Sum.inr e13))
theorem Z45_l5_qe {a0:(Sl Bs)}  (Kb5:(Unit ⊕ Bool)->Option Bool) (hend:∀(n5:Nat) (s3_6:Nat),Z45_j2   =Kb5 (Sum.inl ())) (hret:∀e:Bool,some e=Kb5 (Sum.inr e)):∀(n5:Nat) (s3_6:Nat),(0<n5/\a0.l.length<s3_6+n5)->Z45_l5 a0 n5 s3_6=Option.bind (Z45_q5 a0 (a0.l.drop s3_6) s3_6 ) Kb5:=by
 intro n5;induction n5 with
 | zero=>intro s3_6 hn; exact absurd hn.1 (by omega)
 | succ n5 ih5 =>
  intro s3_6 hn;rw [Z45_l5];by_cases hlt:s3_6<a0.l.length
  ·obtain⟨h5,hh5⟩:=Qa hlt;rw [Q.drop_of hh5,Z45_q5];refine QT hlt ?_;refine Q.wrapOO fun Kb13 hKb13=>?_;refine Z45_l13_qe hh5 Kb13 ?_ ?_ _ _ ⟨Nat.succ_pos _,by omega⟩
   ·intro n13 s4_14;refine Qe (hKb13 _) ?_;try dsimp only
    refine Q.wrapPO fun Kj11 hKj11=>?_;have hj11:Z45_j11 s3_6 (Z45_l5 a0 n5) =Kj11 ():=by
     refine Qe (hKj11 _) ?_;unfold Z45_j11;all_goals exact ih5 _ ⟨by omega,by omega⟩
    all_goals exact hj11
   intro e13;refine Qe (hKb13 _) ?_;try dsimp only
   all_goals exact hret _
  rw [dL (by omega),Z45_q5];refine QF hlt ?_;exact hend n5 s3_6
def Z45_q (a0:(Sl Bs)):Option Bool:=Option.bind (Z45_q5 a0 a0.l 0 ) fun o5=>match o5 with|Sum.inl _=>(on (()) fun _=>some false)|Sum.inr e5=>(some e5)
theorem Z45_eq (a0:(Sl Bs)):Z45 a0=Z45_q a0:=by
 unfold Z45 Z45_q;refine Qs ?_;refine Q.wrapOO fun Kb5 hKb5=>?_;refine Z45_l5_qe  Kb5 ?_ ?_ _ _ ⟨Nat.succ_pos _,by omega⟩
 ·intro n5 s3_6;refine Qe (hKb5 _) ?_;try dsimp only
  refine Q.wrapPO fun Kj2 hKj2=>?_;have hj2:Z45_j2  =Kj2 ():=by
   refine Qe (hKj2 _) ?_;unfold Z45_j2;all_goals rfl
  all_goals exact hj2
 intro e5;refine Qe (hKb5 _) ?_;try dsimp only
 all_goals rfl
def Z44_q (a0:Z7) (a1:Bool):Option Bool:=bif (decide (a0.FKind=(0:Int))) then(some ((((decide (a0.FInt=(0:Int)))&&((a0.FText==([]:Bs))))&&(decide (((a0.FItems.l.length:Nat):Int)=(0:Int))))&&(decide (((a0.FKeys.l.length:Nat):Int)=(0:Int))))) else(bif (decide (a0.FKind=(1:Int))) then(some (((((decide (a0.FInt=(0:Int)))||(decide (a0.FInt=(1:Int))))&&((a0.FText==([]:Bs))))&&(decide (((a0.FItems.l.length:Nat):Int)=(0:Int))))&&(decide (((a0.FKeys.l.length:Nat):Int)=(0:Int))))) else(bif (decide (a0.FKind=(2:Int))) then(some ((((a0.FText==([]:Bs)))&&(decide (((a0.FItems.l.length:Nat):Int)=(0:Int))))&&(decide (((a0.FKeys.l.length:Nat):Int)=(0:Int))))) else(bif (decide (a0.FKind=(3:Int))) then(some (((decide (a0.FInt=(0:Int)))&&(decide (((a0.FItems.l.length:Nat):Int)=(0:Int))))&&(decide (((a0.FKeys.l.length:Nat):Int)=(0:Int))))) else(bif (decide (a0.FKind=(4:Int))) then(on (bif (((decide (a0.FInt=(0:Int)))&&(decide (((a0.FItems.l.length:Nat):Int)=(0:Int))))&&(decide (((a0.FKeys.l.length:Nat):Int)=(0:Int)))) then Z37_q a0.FText else false) fun x19=>some (((((((decide (a0.FInt=(0:Int)))&&(decide (((a0.FItems.l.length:Nat):Int)=(0:Int))))&&(decide (((a0.FKeys.l.length:Nat):Int)=(0:Int))))&&x19)&&(!(a0.FText==([116,114,117,101]:Bs))))&&(!(a0.FText==([102,97,108,115,101]:Bs))))&&(!(a0.FText==([110,117,108,108]:Bs))))) else(bif (decide (a0.FKind=(5:Int))) then(some (((decide (a0.FInt=(0:Int)))&&((a0.FText==([]:Bs))))&&(decide (((a0.FKeys.l.length:Nat):Int)=(0:Int))))) else(bif (decide (a0.FKind=(6:Int))) then(guardO ((((decide (a0.FInt=(0:Int)))&&((a0.FText==([]:Bs))))&&(decide (((a0.FKeys.l.length:Nat):Int)=((a0.FItems.l.length:Nat):Int))))) (Z45_q a0.FKeys) false fun x26=>some ((((decide (a0.FInt=(0:Int)))&&((a0.FText==([]:Bs))))&&(decide (((a0.FKeys.l.length:Nat):Int)=((a0.FItems.l.length:Nat):Int))))&&(!x26))) else(bif (decide (a0.FKind=(7:Int))) then(on (bif (((a1&&(decide (a0.FInt=(0:Int))))&&(decide (((a0.FItems.l.length:Nat):Int)=(0:Int))))&&(decide (((a0.FKeys.l.length:Nat):Int)=(0:Int)))) then Z37_q a0.FText else false) fun x30=>some ((((a1&&(decide (a0.FInt=(0:Int))))&&(decide (((a0.FItems.l.length:Nat):Int)=(0:Int))))&&(decide (((a0.FKeys.l.length:Nat):Int)=(0:Int))))&&x30)) else(some false))))))))
theorem Z44_eq (a0:Z7) (a1:Bool):Z44 a0 a1=Z44_q a0 a1:=by
 unfold Z44 Z44_q;refine Qs ?_;refine Q.condO ?_ ?_
 ·all_goals rfl
 refine Q.condO ?_ ?_
 ·all_goals rfl
 refine Q.condO ?_ ?_
 ·all_goals rfl
 refine Q.condO ?_ ?_
 ·all_goals rfl
 refine Q.condO ?_ ?_
 ·refine Q.guardPO (Z37_eq _) fun x19 hx_x19=>?_;all_goals rfl
 refine Q.condO ?_ ?_
 ·all_goals rfl
 refine Q.condO ?_ ?_
 ·refine Q.guardOO (Z45_eq _) fun x26=>?_;all_goals rfl
 refine Q.condO ?_ ?_
 ·refine Q.guardPO (Z37_eq _) fun x30 hx_x30=>?_;all_goals rfl
 all_goals rfl
def Z46_q24 (a1:Bool):List Bs->Unit ⊕ Bool
 | []=>Sum.inl ()
 | h24::r24=>on (bif a1 then h24 else([]:Bs)) fun x32=>on (bif a1 then Z37_q x32 else false) fun x33=>bif (a1&&(!x33)) then(Sum.inr false) else(Z46_q24 a1 (r24) )
theorem Z46_l24_qe {a0:Z7}{a1:Bool}{k_rec_123:Z7->Bool->Option Bool}  (Kb24:(Unit ⊕ Bool)->Option Bool) (hend:∀(n24:Nat) (s5_25:Nat),Z46_j7 a0 a1 k_rec_123 =Kb24 (Sum.inl ())) (hret:∀e:Bool,some e=Kb24 (Sum.inr e)):∀(n24:Nat) (s5_25:Nat),(0<n24/\a0.FKeys.l.length<s5_25+n24)->Z46_l24 a0 a1 k_rec_123 n24 s5_25=Kb24 (Z46_q24 a1 (a0.FKeys.l.drop s5_25) ):=by
 intro n24;induction n24 with
 | zero=>intro s5_25 hn; exact absurd hn.1 (by omega)
 | succ n24 ih24 =>
  intro s5_25 hn;rw [Z46_l24];by_cases hlt:s5_25<a0.FKeys.l.length
  ·obtain⟨h24,hh24⟩:=Qa hlt;rw [Q.drop_of hh24,Z46_q24];refine QT hlt ?_;refine Q.guardP hh24 fun x32 hx_x32=>?_;refine Q.guardP (Z37_eq _) fun x33 hx_x33=>?_;refine Q.condP ?_ ?_
   ·all_goals exact hret _
   all_goals exact ih24 _ ⟨by omega,by omega⟩
  rw [dL (by omega),Z46_q24];refine QF hlt ?_;exact hend n24 s5_25
def Z46_q11 (a1:Bool) (k_rec_123:Z7->Bool->Option Bool):List Z7->Option (Unit ⊕ Bool)
 | []=>some (Sum.inl ())
 | h11::r11=>on (h11) fun x19=>(k_rec_123 x19 a1).bind fun x20=>bif (!x20) then(some (Sum.inr false)) else(Z46_q11 a1 k_rec_123 (r11) )
theorem Z46_l11_qe {a0:Z7}{a1:Bool}{k_rec_123:Z7->Bool->Option Bool}  (Kb11:(Unit ⊕ Bool)->Option Bool) (hend:∀(n11:Nat) (s6_12:Nat),Z46_j8   =Kb11 (Sum.inl ())) (hret:∀e:Bool,some e=Kb11 (Sum.inr e)):∀(n11:Nat) (s6_12:Nat),(0<n11/\a0.FItems.l.length<s6_12+n11)->Z46_l11 a0 a1 k_rec_123 n11 s6_12=Option.bind (Z46_q11 a1 k_rec_123 (a0.FItems.l.drop s6_12) ) Kb11:=by
 intro n11;induction n11 with
 | zero=>intro s6_12 hn; exact absurd hn.1 (by omega)
 | succ n11 ih11 =>
  intro s6_12 hn;rw [Z46_l11];by_cases hlt:s6_12<a0.FItems.l.length
  ·obtain⟨h11,hh11⟩:=Qa hlt;rw [Q.drop_of hh11,Z46_q11];refine QT hlt ?_;refine Q.bindPO hh11 fun x19 hx_x19=>?_;refine Q.bindO rfl fun x20=>?_;refine Q.condO ?_ ?_
   ·all_goals exact hret _
   all_goals exact ih11 _ ⟨by omega,by omega⟩
  rw [dL (by omega),Z46_q11];refine QF hlt ?_;exact hend n11 s6_12
def Z46_qn:Nat->Z7->Bool->Option Bool
 | 0,_,_=>none
 | n+1,a0,a1=>(Z44_q a0 a1).bind fun x4=>bif (!x4) then(some false) else(on (Z46_q24 a1 a0.FKeys.l ) fun o24=>match o24 with|Sum.inl _=>(on (()) fun _=>Option.bind (Z46_q11 a1 (Z46_qn n) a0.FItems.l ) fun o11=>match o11 with|Sum.inl _=>(on (()) fun _=>some true)|Sum.inr e11=>(some e11))|Sum.inr e24=>(some e24))
theorem Z46_qall:∀n:Nat,Z46_n n=Z46_qn n:=by
 intro n;induction n with
 | zero=>exact(by funext a0 a1; first|rfl|(rw [Z46_n,Z46_qn]))
 | succ n ih =>
  funext a0 a1
  refine Qs ?_;rw [Z46_n,Z46_qn];try rw [ih]
  refine Q.bindO (Z44_eq _ _) fun x4=>?_;refine Q.condO ?_ ?_
  ·all_goals rfl
  refine Q.wrapPO fun Kb24 hKb24=>?_;refine Z46_l24_qe  Kb24 ?_ ?_ _ _ ⟨Nat.succ_pos _,by omega⟩
  ·intro n24 s5_25;refine Qe (hKb24 _) ?_;try dsimp only
   refine Q.wrapPO fun Kj7 hKj7=>?_;have hj7:Z46_j7 a0 a1 (Z46_qn n) =Kj7 ():=by
    refine Qe (hKj7 _) ?_;unfold Z46_j7;refine Q.wrapOO fun Kb11 hKb11=>?_;refine Z46_l11_qe  Kb11 ?_ ?_ _ _ ⟨Nat.succ_pos _,by omega⟩
    ·intro n11 s6_12;refine Qe (hKb11 _) ?_;try dsimp only
     refine Q.wrapPO fun Kj8 hKj8=>?_;have hj8:Z46_j8  =Kj8 ():=by
      refine Qe (hKj8 _) ?_;unfold Z46_j8;all_goals rfl
     all_goals exact hj8
    intro e11;refine Qe (hKb11 _) ?_;try dsimp only
    all_goals rfl
   all_goals exact hj7
  intro e24;refine Qe (hKb24 _) ?_;try dsimp only
  all_goals rfl
def Z46_q (a0:Z7) (a1:Bool):Option Bool:=Z46_qn F0 a0 a1
theorem Z46_eq (a0:Z7) (a1:Bool):Z46 a0 a1=Z46_q a0 a1:=by
 unfold Z46 Z46_q; rw [(Z46_qall F0)]
def Z42_q (a0:Z7):Option Bool:=(Z43_q a0).bind fun x3=>guardO ((decide (x3<=(4096:Int)))) (Z41_q a0) (0:Int) fun x4=>guardO (((decide (x3<=(4096:Int)))&&(decide (x4<=(24:Int))))) (Z46_q a0 true) false fun x5=>some (((decide (x3<=(4096:Int)))&&(decide (x4<=(24:Int))))&&x5)
theorem Z42_eq (a0:Z7):Z42 a0=Z42_q a0:=by
 unfold Z42 Z42_q;refine Qs ?_;refine Q.bindO (Z43_eq _) fun x3=>?_;refine Q.guardOO (Z41_eq _) fun x4=>?_;refine Q.guardOO (Z46_eq _ _) fun x5=>?_;all_goals rfl
def Z58_q5 (k_rec_90:Z7->Option Bool):List Z7->Option (Unit ⊕ Bool)
 | []=>some (Sum.inl ())
 | h5::r5=>on (h5) fun x13=>(k_rec_90 x13).bind fun x14=>bif (!x14) then(some (Sum.inr false)) else(Z58_q5 k_rec_90 (r5) )
theorem Z58_l5_qe {a0:Z7}{k_rec_90:Z7->Option Bool}  (Kb5:(Unit ⊕ Bool)->Option Bool) (hend:∀(n5:Nat) (s3_6:Nat),Z58_j2 a0  =Kb5 (Sum.inl ())) (hret:∀e:Bool,some e=Kb5 (Sum.inr e)):∀(n5:Nat) (s3_6:Nat),(0<n5/\a0.FItems.l.length<s3_6+n5)->Z58_l5 a0 k_rec_90 n5 s3_6=Option.bind (Z58_q5 k_rec_90 (a0.FItems.l.drop s3_6) ) Kb5:=by
 intro n5;induction n5 with
 | zero=>intro s3_6 hn; exact absurd hn.1 (by omega)
 | succ n5 ih5 =>
  intro s3_6 hn;rw [Z58_l5];by_cases hlt:s3_6<a0.FItems.l.length
  ·obtain⟨h5,hh5⟩:=Qa hlt;rw [Q.drop_of hh5,Z58_q5];refine QT hlt ?_;refine Q.bindPO hh5 fun x13 hx_x13=>?_;refine Q.bindO rfl fun x14=>?_;refine Q.condO ?_ ?_
   ·all_goals exact hret _
   all_goals exact ih5 _ ⟨by omega,by omega⟩
  rw [dL (by omega),Z58_q5];refine QF hlt ?_;exact hend n5 s3_6
def Z58_qn:Nat->Z7->Option Bool
 | 0,_=>none
 | n+1,a0=>Option.bind (Z58_q5 (Z58_qn n) a0.FItems.l ) fun o5=>match o5 with|Sum.inl _=>(on (()) fun _=>some (!decide (a0.FKind=(7:Int))))|Sum.inr e5=>(some e5)
theorem Z58_qall:∀n:Nat,Z58_n n=Z58_qn n:=by
 intro n;induction n with
 | zero=>exact(by funext a0; first|rfl|(rw [Z58_n,Z58_qn]))
 | succ n ih =>
  funext a0
  refine Qs ?_;rw [Z58_n,Z58_qn];try rw [ih]
  refine Q.wrapOO fun Kb5 hKb5=>?_;refine Z58_l5_qe  Kb5 ?_ ?_ _ _ ⟨Nat.succ_pos _,by omega⟩
  ·intro n5 s3_6;refine Qe (hKb5 _) ?_;try dsimp only
   refine Q.wrapPO fun Kj2 hKj2=>?_;have hj2:Z58_j2 a0 =Kj2 ():=by
    refine Qe (hKj2 _) ?_;unfold Z58_j2;all_goals rfl
   all_goals exact hj2
  intro e5;refine Qe (hKb5 _) ?_;try dsimp only
  all_goals rfl
def Z58_q (a0:Z7):Option Bool:=Z58_qn F0 a0
theorem Z58_eq (a0:Z7):Z58 a0=Z58_q a0:=by
 unfold Z58 Z58_q; rw [(Z58_qall F0)]
def Z60_q25 (h10:TDir):List TArg->Option (Unit ⊕ Bool)
 | []=>some (Sum.inl ())
 | h25::r25=>on (h10) fun x34=>on (h25) fun x35=>on (Z37_q x35.FName) fun x37=>guardO (!(!x37)) (Z42_q x35.FValue) false fun x38=>guardO (!((!x37)||(!x38))) (Z58_q x35.FValue) false fun x39=>bif (((!x37)||(!x38))||(!x39)) then(some (Sum.inr false)) else(Z60_q25 h10 (r25) )
theorem Z60_l25_qe {a0:(Sl TDir)}{s3_11:Nat}{k_next_10:Nat->Option Bool}{h10:TDir}(hh10:a0.l[s3_11]?=some h10) (Kb25:(Unit ⊕ Bool)->Option Bool) (hend:∀(n25:Nat) (s4_26:Nat),Z60_j16 s3_11 k_next_10 =Kb25 (Sum.inl ())) (hret:∀e:Bool,some e=Kb25 (Sum.inr e)):∀(n25:Nat) (s4_26:Nat),(0<n25/\h10.FArgs.l.length<s4_26+n25)->Z60_l25 a0 s3_11 k_next_10 n25 s4_26=Option.bind (Z60_q25 h10 (h10.FArgs.l.drop s4_26) ) Kb25:=by
 intro n25;induction n25 with
 | zero=>intro s4_26 hn; exact absurd hn.1 (by omega)
 | succ n25 ih25 =>
  intro s4_26 hn;rw [Z60_l25];refine Q.preB hh10 fun x29 hx_x29=>?_;subst hx_x29;by_cases hlt:s4_26<x29.FArgs.l.length
  ·obtain⟨h25,hh25⟩:=Qa hlt;rw [Q.drop_of hh25,Z60_q25];refine QT hlt ?_;refine Q.bindPO hh10 fun x34 hx_x34=>?_;refine Q.bindPO (by first|exact hh25|(simp only [hx_x34]; exact hh25)|(simp only [hx_x34] at hh25 ⊢; exact hh25)) fun x35 hx_x35=>?_;refine Q.bindPO (Z37_eq _) fun x37 hx_x37=>?_;refine Q.guardOO (Z42_eq _) fun x38=>?_;refine Q.guardOO (Z58_eq _) fun x39=>?_;refine Q.condO ?_ ?_
   ·all_goals exact hret _
   all_goals exact ih25 _ ⟨by omega,by omega⟩
  rw [dL (by omega),Z60_q25];refine QF hlt ?_;exact hend n25 s4_26
def Z60_q10 :List TDir->Option (Unit ⊕ Bool)
 | []=>some (Sum.inl ())
 | h10::r10=>on (h10) fun x19=>on (Z37_q x19.FName) fun x20=>on (bif !(!x20) then h10 else TDir.zero) fun x21=>bif ((!x20)||(decide ((16:Int)<((x21.FArgs.l.length:Nat):Int)))) then(some (Sum.inr false)) else(Option.bind (Z60_q25 h10 h10.FArgs.l ) fun o25=>match o25 with|Sum.inl _=>(on (()) fun _=>Z60_q10  (r10) )|Sum.inr e25=>(some (Sum.inr e25)))
theorem Z60_l10_qe {a0:(Sl TDir)}  (Kb10:(Unit ⊕ Bool)->Option Bool) (hend:∀(n10:Nat) (s3_11:Nat),Z60_j7   =Kb10 (Sum.inl ())) (hret:∀e:Bool,some e=Kb10 (Sum.inr e)):∀(n10:Nat) (s3_11:Nat),(0<n10/\a0.l.length<s3_11+n10)->Z60_l10 a0 n10 s3_11=Option.bind (Z60_q10  (a0.l.drop s3_11) ) Kb10:=by
 intro n10;induction n10 with
 | zero=>intro s3_11 hn; exact absurd hn.1 (by omega)
 | succ n10 ih10 =>
  intro s3_11 hn;rw [Z60_l10];by_cases hlt:s3_11<a0.l.length
  ·obtain⟨h10,hh10⟩:=Qa hlt;rw [Q.drop_of hh10,Z60_q10];refine QT hlt ?_;refine Q.bindPO hh10 fun x19 hx_x19=>?_;refine Q.bindPO (Z37_eq _) fun x20 hx_x20=>?_;refine Q.guardPO hh10 fun x21 hx_x21=>?_;refine Q.condO ?_ ?_
   ·all_goals exact hret _
   refine Q.wrapOO fun Kb25 hKb25=>?_;refine Z60_l25_qe hh10 Kb25 ?_ ?_ _ _ ⟨by rw [hh10]; exact Nat.succ_pos _,by rw [hh10]; simp only [Option.elim]; omega⟩
   ·intro n25 s4_26;refine Qe (hKb25 _) ?_;try dsimp only
    refine Q.wrapPO fun Kj16 hKj16=>?_;have hj16:Z60_j16 s3_11 (Z60_l10 a0 n10) =Kj16 ():=by
     refine Qe (hKj16 _) ?_;unfold Z60_j16;all_goals exact ih10 _ ⟨by omega,by omega⟩
    all_goals exact hj16
   intro e25;refine Qe (hKb25 _) ?_;try dsimp only
   all_goals exact hret _
  rw [dL (by omega),Z60_q10];refine QF hlt ?_;exact hend n10 s3_11
def Z60_q (a0:(Sl TDir)):Option Bool:=bif (decide ((16:Int)<((a0.l.length:Nat):Int))) then(some false) else(Option.bind (Z60_q10  a0.l ) fun o10=>match o10 with|Sum.inl _=>(on (()) fun _=>some true)|Sum.inr e10=>(some e10))
theorem Z60_eq (a0:(Sl TDir)):Z60 a0=Z60_q a0:=by
 unfold Z60 Z60_q;refine Qs ?_;refine Q.condO ?_ ?_
 ·all_goals rfl
 refine Q.wrapOO fun Kb10 hKb10=>?_;refine Z60_l10_qe  Kb10 ?_ ?_ _ _ ⟨Nat.succ_pos _,by omega⟩
 ·intro n10 s3_11;refine Qe (hKb10 _) ?_;try dsimp only
  refine Q.wrapPO fun Kj7 hKj7=>?_;have hj7:Z60_j7  =Kj7 ():=by
   refine Qe (hKj7 _) ?_;unfold Z60_j7;all_goals rfl
  all_goals exact hj7
 intro e10;refine Qe (hKb10 _) ?_;try dsimp only
 all_goals rfl
def Z52_q10 (a0:TRef):List Int->Nat->Option (Unit ⊕ Bool)
 | [],s3_11=>some (Sum.inl ())
 | h10::r10,s3_11=>on (h10) fun x19=>on (bif (!decide (x19=(1:Int))) then h10 else(0:Int)) fun x20=>bif ((!decide (x19=(1:Int)))&&(!decide (x20=(2:Int)))) then(some (Sum.inr false)) else(on (bif (decide ((0:Int)<((s3_11:Nat):Int))) then h10 else(0:Int)) fun x24=>guardO (((decide ((0:Int)<((s3_11:Nat):Int)))&&(decide (x24=(1:Int))))) (subC ((s3_11:Nat):Int) (1:Int)) (0:Int) fun x25=>guardO (((decide ((0:Int)<((s3_11:Nat):Int)))&&(decide (x24=(1:Int))))) (idxC a0.FWraps.l x25) (0:Int) fun x26=>bif (((decide ((0:Int)<((s3_11:Nat):Int)))&&(decide (x24=(1:Int))))&&(decide (x26=(1:Int)))) then(some (Sum.inr false)) else(Z52_q10 a0 (r10) (s3_11+1) ))
theorem Z52_l10_qe {a0:TRef}  (Kb10:(Unit ⊕ Bool)->Option Bool) (hend:∀(n10:Nat) (s3_11:Nat),Z52_j7   =Kb10 (Sum.inl ())) (hret:∀e:Bool,some e=Kb10 (Sum.inr e)):∀(n10:Nat) (s3_11:Nat),(0<n10/\a0.FWraps.l.length<s3_11+n10)->Z52_l10 a0 n10 s3_11=Option.bind (Z52_q10 a0 (a0.FWraps.l.drop s3_11) s3_11 ) Kb10:=by
 intro n10;induction n10 with
 | zero=>intro s3_11 hn; exact absurd hn.1 (by omega)
 | succ n10 ih10 =>
  intro s3_11 hn;rw [Z52_l10];by_cases hlt:s3_11<a0.FWraps.l.length
  ·obtain⟨h10,hh10⟩:=Qa hlt;rw [Q.drop_of hh10,Z52_q10];refine QT hlt ?_;refine Q.bindPO hh10 fun x19 hx_x19=>?_;refine Q.guardPO hh10 fun x20 hx_x20=>?_;refine Q.condO ?_ ?_
   ·all_goals exact hret _
   refine Q.guardPO hh10 fun x24 hx_x24=>?_;refine Q.guardOO rfl fun x25=>?_;refine Q.guardOO rfl fun x26=>?_;refine Q.condO ?_ ?_
   ·all_goals exact hret _
   all_goals exact ih10 _ ⟨by omega,by omega⟩
  rw [dL (by omega),Z52_q10];refine QF hlt ?_;exact hend n10 s3_11
def Z52_q (a0:TRef):Option Bool:=on (Z37_q a0.FName) fun x4=>bif ((!x4)||(decide ((24:Int)<((a0.FWraps.l.length:Nat):Int)))) then(some false) else(Option.bind (Z52_q10 a0 a0.FWraps.l 0 ) fun o10=>match o10 with|Sum.inl _=>(on (()) fun _=>some true)|Sum.inr e10=>(some e10))
theorem Z52_eq (a0:TRef):Z52 a0=Z52_q a0:=by
 unfold Z52 Z52_q;refine Qs ?_;refine Q.bindPO (Z37_eq _) fun x4 hx_x4=>?_;refine Q.condO ?_ ?_
 ·all_goals rfl
 refine Q.wrapOO fun Kb10 hKb10=>?_;refine Z52_l10_qe  Kb10 ?_ ?_ _ _ ⟨Nat.succ_pos _,by omega⟩
 ·intro n10 s3_11;refine Qe (hKb10 _) ?_;try dsimp only
  refine Q.wrapPO fun Kj7 hKj7=>?_;have hj7:Z52_j7  =Kj7 ():=by
   refine Qe (hKj7 _) ?_;unfold Z52_j7;all_goals rfl
  all_goals exact hj7
 intro e10;refine Qe (hKb10 _) ?_;try dsimp only
 all_goals rfl
def Z64_q (a0:Z7):Bool:=(((((decide (a0.FKind=(0:Int)))&&(decide (a0.FInt=(0:Int))))&&((a0.FText==([]:Bs))))&&(decide (((a0.FItems.l.length:Nat):Int)=(0:Int))))&&(decide (((a0.FKeys.l.length:Nat):Int)=(0:Int))))
theorem Z64_eq (a0:Z7):Z64 a0=some (Z64_q a0):=by
 unfold Z64 Z64_q;all_goals rfl
def Z62_q10 :List Z5->Option (Unit ⊕ Bool)
 | []=>some (Sum.inl ())
 | h10::r10=>on (h10) fun x18=>on (Z37_q x18.FName) fun x21=>guardO (!(!x21)) (Z52_q x18.FType) false fun x22=>guardO (!((!x21)||(!x22))) (Z60_q x18.FDirs) false fun x23=>bif (((!x21)||(!x22))||(!x23)) then(some (Sum.inr false)) else(guardO (x18.FHas) (Z42_q x18.FDefault) false fun x27=>guardO ((x18.FHas&&!(!x27))) (Z58_q x18.FDefault) false fun x28=>on (bif (!(x18.FHas&&((!x27)||(!x28)))&&(!x18.FHas)) then Z64_q x18.FDefault else false) fun x29=>bif ((x18.FHas&&((!x27)||(!x28)))||((!x18.FHas)&&(!x29))) then(some (Sum.inr false)) else(Z62_q10  (r10) ))
theorem Z62_l10_qe {a0:(Sl Z5)}  (Kb10:(Unit ⊕ Bool)->Option Bool) (hend:∀(n10:Nat) (s3_11:Nat),Z62_j7   =Kb10 (Sum.inl ())) (hret:∀e:Bool,some e=Kb10 (Sum.inr e)):∀(n10:Nat) (s3_11:Nat),(0<n10/\a0.l.length<s3_11+n10)->Z62_l10 a0 n10 s3_11=Option.bind (Z62_q10  (a0.l.drop s3_11) ) Kb10:=by
 intro n10;induction n10 with
 | zero=>intro s3_11 hn; exact absurd hn.1 (by omega)
 | succ n10 ih10 =>
  intro s3_11 hn;rw [Z62_l10];by_cases hlt:s3_11<a0.l.length
  ·obtain⟨h10,hh10⟩:=Qa hlt;rw [Q.drop_of hh10,Z62_q10];refine QT hlt ?_;refine Q.bindPO hh10 fun x18 hx_x18=>?_;refine Q.bindPO (Z37_eq _) fun x21 hx_x21=>?_;refine Q.guardOO (Z52_eq _) fun x22=>?_;refine Q.guardOO (Z60_eq _) fun x23=>?_;refine Q.condO ?_ ?_
   ·all_goals exact hret _
   refine Q.guardOO (Z42_eq _) fun x27=>?_;refine Q.guardOO (Z58_eq _) fun x28=>?_;refine Q.guardPO (Z64_eq _) fun x29 hx_x29=>?_;refine Q.condO ?_ ?_
   ·all_goals exact hret _
   all_goals exact ih10 _ ⟨by omega,by omega⟩
  rw [dL (by omega),Z62_q10];refine QF hlt ?_;exact hend n10 s3_11
def Z62_q (a0:(Sl Z5)):Option Bool:=bif (decide ((16:Int)<((a0.l.length:Nat):Int))) then(some false) else(Option.bind (Z62_q10  a0.l ) fun o10=>match o10 with|Sum.inl _=>(on (()) fun _=>some true)|Sum.inr e10=>(some e10))
theorem Z62_eq (a0:(Sl Z5)):Z62 a0=Z62_q a0:=by
 unfold Z62 Z62_q;refine Qs ?_;refine Q.condO ?_ ?_
 ·all_goals rfl
 refine Q.wrapOO fun Kb10 hKb10=>?_;refine Z62_l10_qe  Kb10 ?_ ?_ _ _ ⟨Nat.succ_pos _,by omega⟩
 ·intro n10 s3_11;refine Qe (hKb10 _) ?_;try dsimp only
  refine Q.wrapPO fun Kj7 hKj7=>?_;have hj7:Z62_j7  =Kj7 ():=by
   refine Qe (hKj7 _) ?_;unfold Z62_j7;all_goals rfl
  all_goals exact hj7
 intro e10;refine Qe (hKb10 _) ?_;try dsimp only
 all_goals rfl
def Z61_q10 :List Z4->Option (Unit ⊕ Bool)
 | []=>some (Sum.inl ())
 | h10::r10=>on (h10) fun x18=>on (Z37_q x18.FName) fun x19=>on (bif !(!x19) then h10 else Z4.zero) fun x20=>guardO (!(!x19)) (Z62_q x20.FArgs) false fun x21=>on (bif !((!x19)||(!x21)) then h10 else Z4.zero) fun x22=>guardO (!((!x19)||(!x21))) (Z52_q x22.FType) false fun x23=>on (bif !(((!x19)||(!x21))||(!x23)) then h10 else Z4.zero) fun x24=>guardO (!(((!x19)||(!x21))||(!x23))) (Z60_q x24.FDirs) false fun x25=>bif ((((!x19)||(!x21))||(!x23))||(!x25)) then(some (Sum.inr false)) else(Z61_q10  (r10) )
theorem Z61_l10_qe {a0:(Sl Z4)}  (Kb10:(Unit ⊕ Bool)->Option Bool) (hend:∀(n10:Nat) (s3_11:Nat),Z61_j7   =Kb10 (Sum.inl ())) (hret:∀e:Bool,some e=Kb10 (Sum.inr e)):∀(n10:Nat) (s3_11:Nat),(0<n10/\a0.l.length<s3_11+n10)->Z61_l10 a0 n10 s3_11=Option.bind (Z61_q10  (a0.l.drop s3_11) ) Kb10:=by
 intro n10;induction n10 with
 | zero=>intro s3_11 hn; exact absurd hn.1 (by omega)
 | succ n10 ih10 =>
  intro s3_11 hn;rw [Z61_l10];by_cases hlt:s3_11<a0.l.length
  ·obtain⟨h10,hh10⟩:=Qa hlt;rw [Q.drop_of hh10,Z61_q10];refine QT hlt ?_;refine Q.bindPO hh10 fun x18 hx_x18=>?_;refine Q.bindPO (Z37_eq _) fun x19 hx_x19=>?_;refine Q.guardPO hh10 fun x20 hx_x20=>?_;refine Q.guardOO (Z62_eq _) fun x21=>?_;refine Q.guardPO hh10 fun x22 hx_x22=>?_;refine Q.guardOO (Z52_eq _) fun x23=>?_;refine Q.guardPO hh10 fun x24 hx_x24=>?_;refine Q.guardOO (Z60_eq _) fun x25=>?_
   refine Q.condO ?_ ?_
   ·all_goals exact hret _
   all_goals exact ih10 _ ⟨by omega,by omega⟩
  rw [dL (by omega),Z61_q10];refine QF hlt ?_;exact hend n10 s3_11
def Z61_q (a0:(Sl Z4)):Option Bool:=bif ((decide (((a0.l.length:Nat):Int)<(1:Int)))||(decide ((64:Int)<((a0.l.length:Nat):Int)))) then(some false) else(Option.bind (Z61_q10  a0.l ) fun o10=>match o10 with|Sum.inl _=>(on (()) fun _=>some true)|Sum.inr e10=>(some e10))
theorem Z61_eq (a0:(Sl Z4)):Z61 a0=Z61_q a0:=by
 unfold Z61 Z61_q;refine Qs ?_;refine Q.condO ?_ ?_
 ·all_goals rfl
 refine Q.wrapOO fun Kb10 hKb10=>?_;refine Z61_l10_qe  Kb10 ?_ ?_ _ _ ⟨Nat.succ_pos _,by omega⟩
 ·intro n10 s3_11;refine Qe (hKb10 _) ?_;try dsimp only
  refine Q.wrapPO fun Kj7 hKj7=>?_;have hj7:Z61_j7  =Kj7 ():=by
   refine Qe (hKj7 _) ?_;unfold Z61_j7;all_goals rfl
  all_goals exact hj7
 intro e10;refine Qe (hKb10 _) ?_;try dsimp only
 all_goals rfl
end Go.Proofs

namespace Go.Proofs
open Go Go.Ab
def Z63_q10 (a1:Bool):List Z6->Option (Unit ⊕ Bool)
 | []=>some (Sum.inl ())
 | h10::r10=>on (h10) fun x18=>on (Z37_q x18.FName) fun x19=>on (bif !(!x19) then h10 else Z6.zero) fun x20=>guardO (!(!x19)) (Z60_q x20.FDirs) false fun x21=>on (bif (!((!x19)||(!x21))&&a1) then h10 else Z6.zero) fun x22=>bif (((!x19)||(!x21))||(a1&&(decide ((0:Int)<((x22.FDirs.l.length:Nat):Int))))) then(some (Sum.inr false)) else(Z63_q10 a1 (r10) )
theorem Z63_l10_qe {a0:(Sl Z6)}{a1:Bool}  (Kb10:(Unit ⊕ Bool)->Option Bool) (hend:∀(n10:Nat) (s5_11:Nat),Z63_j7   =Kb10 (Sum.inl ())) (hret:∀e:Bool,some e=Kb10 (Sum.inr e)):∀(n10:Nat) (s5_11:Nat),(0<n10/\a0.l.length<s5_11+n10)->Z63_l10 a0 a1 n10 s5_11=Option.bind (Z63_q10 a1 (a0.l.drop s5_11) ) Kb10:=by
 intro n10;induction n10 with
 | zero=>intro s5_11 hn; exact absurd hn.1 (by omega)
 | succ n10 ih10 =>
  intro s5_11 hn;rw [Z63_l10];by_cases hlt:s5_11<a0.l.length
  ·obtain⟨h10,hh10⟩:=Qa hlt;rw [Q.drop_of hh10,Z63_q10];refine QT hlt ?_;refine Q.bindPO hh10 fun x18 hx_x18=>?_;refine Q.bindPO (Z37_eq _) fun x19 hx_x19=>?_;refine Q.guardPO hh10 fun x20 hx_x20=>?_;refine Q.guardOO (Z60_eq _) fun x21=>?_;refine Q.guardPO hh10 fun x22 hx_x22=>?_;refine Q.condO ?_ ?_
   ·all_goals exact hret _
   all_goals exact ih10 _ ⟨by omega,by omega⟩
  rw [dL (by omega),Z63_q10];refine QF hlt ?_;exact hend n10 s5_11
def Z63_q (a0:(Sl Z6)) (a1:Bool):Option Bool:=bif ((decide (((a0.l.length:Nat):Int)<(1:Int)))||(decide ((64:Int)<((a0.l.length:Nat):Int)))) then(some false) else(Option.bind (Z63_q10 a1 a0.l ) fun o10=>match o10 with|Sum.inl _=>(on (()) fun _=>some true)|Sum.inr e10=>(some e10))
theorem Z63_eq (a0:(Sl Z6)) (a1:Bool):Z63 a0 a1=Z63_q a0 a1:=by
 unfold Z63 Z63_q;refine Qs ?_;refine Q.condO ?_ ?_
 ·all_goals rfl
 refine Q.wrapOO fun Kb10 hKb10=>?_;refine Z63_l10_qe  Kb10 ?_ ?_ _ _ ⟨Nat.succ_pos _,by omega⟩
 ·intro n10 s5_11;refine Qe (hKb10 _) ?_;try dsimp only
  refine Q.wrapPO fun Kj7 hKj7=>?_;have hj7:Z63_j7  =Kj7 ():=by
   refine Qe (hKj7 _) ?_;unfold Z63_j7;all_goals rfl
  all_goals exact hj7
 intro e10;refine Qe (hKb10 _) ?_;try dsimp only
 all_goals rfl
def Z59_q34 :List Bs->Unit ⊕ Bool
 | []=>Sum.inl ()
 | h34::r34=>on (h34) fun x42=>on (Z37_q x42) fun x43=>bif (!x43) then(Sum.inr false) else(Z59_q34  (r34) )
theorem Z59_l34_qe {a0:TDef}  (Kb34:(Unit ⊕ Bool)->Option Bool) (hend:∀(n34:Nat) (s3_35:Nat),Z59_j8 a0  =Kb34 (Sum.inl ())) (hret:∀e:Bool,some e=Kb34 (Sum.inr e)):∀(n34:Nat) (s3_35:Nat),(0<n34/\a0.FImplements.l.length<s3_35+n34)->Z59_l34 a0 n34 s3_35=Kb34 (Z59_q34  (a0.FImplements.l.drop s3_35) ):=by
 intro n34;induction n34 with
 | zero=>intro s3_35 hn; exact absurd hn.1 (by omega)
 | succ n34 ih34 =>
  intro s3_35 hn;rw [Z59_l34];by_cases hlt:s3_35<a0.FImplements.l.length
  ·obtain⟨h34,hh34⟩:=Qa hlt;rw [Q.drop_of hh34,Z59_q34];refine QT hlt ?_;refine Q.bindP hh34 fun x42 hx_x42=>?_;refine Q.bindP (Z37_eq _) fun x43 hx_x43=>?_;refine Q.condP ?_ ?_
   ·all_goals exact hret _
   all_goals exact ih34 _ ⟨by omega,by omega⟩
  rw [dL (by omega),Z59_q34];refine QF hlt ?_;exact hend n34 s3_35
def Z59_q (a0:TDef):Option Bool:=on (Z37_q a0.FName) fun x4=>guardO (!(!x4)) (Z60_q a0.FDirs) false fun x5=>bif (((!x4)||(!x5))||(decide ((64:Int)<((a0.FImplements.l.length:Nat):Int)))) then(some false) else(on (Z59_q34  a0.FImplements.l ) fun o34=>match o34 with|Sum.inl _=>(on (()) fun _=>bif (decide (a0.FKind=(1:Int))) then((Z61_q a0.FFields).bind fun x15=>some ((x15&&(decide (((a0.FMembers.l.length:Nat):Int)=(0:Int))))&&(decide (((a0.FInputs.l.length:Nat):Int)=(0:Int))))) else(bif (decide (a0.FKind=(2:Int))) then(guardO ((decide (((a0.FImplements.l.length:Nat):Int)=(0:Int)))) (Z61_q a0.FFields) false fun x19=>some ((((decide (((a0.FImplements.l.length:Nat):Int)=(0:Int)))&&x19)&&(decide (((a0.FMembers.l.length:Nat):Int)=(0:Int))))&&(decide (((a0.FInputs.l.length:Nat):Int)=(0:Int))))) else(bif (decide (a0.FKind=(3:Int))) then(guardO (((decide (((a0.FImplements.l.length:Nat):Int)=(0:Int)))&&(decide (((a0.FFields.l.length:Nat):Int)=(0:Int))))) (Z63_q a0.FMembers true) false fun x23=>some ((((decide (((a0.FImplements.l.length:Nat):Int)=(0:Int)))&&(decide (((a0.FFields.l.length:Nat):Int)=(0:Int))))&&x23)&&(decide (((a0.FInputs.l.length:Nat):Int)=(0:Int))))) else(bif (decide (a0.FKind=(4:Int))) then(guardO (((decide (((a0.FImplements.l.length:Nat):Int)=(0:Int)))&&(decide (((a0.FFields.l.length:Nat):Int)=(0:Int))))) (Z63_q a0.FMembers false) false fun x27=>some ((((decide (((a0.FImplements.l.length:Nat):Int)=(0:Int)))&&(decide (((a0.FFields.l.length:Nat):Int)=(0:Int))))&&x27)&&(decide (((a0.FInputs.l.length:Nat):Int)=(0:Int))))) else(bif (decide (a0.FKind=(5:Int))) then(guardO (((((decide (((a0.FImplements.l.length:Nat):Int)=(0:Int)))&&(decide (((a0.FFields.l.length:Nat):Int)=(0:Int))))&&(decide (((a0.FMembers.l.length:Nat):Int)=(0:Int))))&&(decide ((0:Int)<((a0.FInputs.l.length:Nat):Int))))) (Z62_q a0.FInputs) false fun x31=>some (((((decide (((a0.FImplements.l.length:Nat):Int)=(0:Int)))&&(decide (((a0.FFields.l.length:Nat):Int)=(0:Int))))&&(decide (((a0.FMembers.l.length:Nat):Int)=(0:Int))))&&(decide ((0:Int)<((a0.FInputs.l.length:Nat):Int))))&&x31)) else(some false))))))|Sum.inr e34=>(some e34))
theorem Z59_eq (a0:TDef):Z59 a0=Z59_q a0:=by
 unfold Z59 Z59_q;refine Qs ?_;refine Q.bindPO (Z37_eq _) fun x4 hx_x4=>?_;refine Q.guardOO (Z60_eq _) fun x5=>?_;refine Q.condO ?_ ?_
 ·all_goals rfl
 refine Q.wrapPO fun Kb34 hKb34=>?_;refine Z59_l34_qe  Kb34 ?_ ?_ _ _ ⟨Nat.succ_pos _,by omega⟩
 ·intro n34 s3_35;refine Qe (hKb34 _) ?_;try dsimp only
  refine Q.wrapPO fun Kj8 hKj8=>?_;have hj8:Z59_j8 a0 =Kj8 ():=by
   refine Qe (hKj8 _) ?_;unfold Z59_j8;refine Q.condO ?_ ?_
   ·refine Q.bindO (Z61_eq _) fun x15=>?_;all_goals rfl
   refine Q.condO ?_ ?_
   ·refine Q.guardOO (Z61_eq _) fun x19=>?_;all_goals rfl
   refine Q.condO ?_ ?_
   ·refine Q.guardOO (Z63_eq _ _) fun x23=>?_;all_goals rfl
   refine Q.condO ?_ ?_
   ·refine Q.guardOO (Z63_eq _ _) fun x27=>?_;all_goals rfl
   refine Q.condO ?_ ?_
   ·refine Q.guardOO (Z62_eq _) fun x31=>?_;all_goals rfl
   all_goals rfl
  all_goals exact hj8
 intro e34;refine Qe (hKb34 _) ?_;try dsimp only
 all_goals rfl
def Z56_q10 :List TDef->Option (Unit ⊕ Bool)
 | []=>some (Sum.inl ())
 | h10::r10=>on (h10) fun x18=>(Z59_q x18).bind fun x19=>bif (!x19) then(some (Sum.inr false)) else(Z56_q10  (r10) )
theorem Z56_l10_qe {a0:TDoc}  (Kb10:(Unit ⊕ Bool)->Option Bool) (hend:∀(n10:Nat) (s3_11:Nat),Z56_j7   =Kb10 (Sum.inl ())) (hret:∀e:Bool,some e=Kb10 (Sum.inr e)):∀(n10:Nat) (s3_11:Nat),(0<n10/\a0.FDefs.l.length<s3_11+n10)->Z56_l10 a0 n10 s3_11=Option.bind (Z56_q10  (a0.FDefs.l.drop s3_11) ) Kb10:=by
 intro n10;induction n10 with
 | zero=>intro s3_11 hn; exact absurd hn.1 (by omega)
 | succ n10 ih10 =>
  intro s3_11 hn;rw [Z56_l10];by_cases hlt:s3_11<a0.FDefs.l.length
  ·obtain⟨h10,hh10⟩:=Qa hlt;rw [Q.drop_of hh10,Z56_q10];refine QT hlt ?_;refine Q.bindPO hh10 fun x18 hx_x18=>?_;refine Q.bindO (Z59_eq _) fun x19=>?_;refine Q.condO ?_ ?_
   ·all_goals exact hret _
   all_goals exact ih10 _ ⟨by omega,by omega⟩
  rw [dL (by omega),Z56_q10];refine QF hlt ?_;exact hend n10 s3_11
def Z56_q (a0:TDoc):Option Bool:=bif ((decide (((a0.FDefs.l.length:Nat):Int)<(1:Int)))||(decide ((64:Int)<((a0.FDefs.l.length:Nat):Int)))) then(some false) else(Option.bind (Z56_q10  a0.FDefs.l ) fun o10=>match o10 with|Sum.inl _=>(on (()) fun _=>some true)|Sum.inr e10=>(some e10))
theorem Z56_eq (a0:TDoc):Z56 a0=Z56_q a0:=by
 unfold Z56 Z56_q;refine Qs ?_;refine Q.condO ?_ ?_
 ·all_goals rfl
 refine Q.wrapOO fun Kb10 hKb10=>?_;refine Z56_l10_qe  Kb10 ?_ ?_ _ _ ⟨Nat.succ_pos _,by omega⟩
 ·intro n10 s3_11;refine Qe (hKb10 _) ?_;try dsimp only
  refine Q.wrapPO fun Kj7 hKj7=>?_;have hj7:Z56_j7  =Kj7 ():=by
   refine Qe (hKj7 _) ?_;unfold Z56_j7;all_goals rfl
  all_goals exact hj7
 intro e10;refine Qe (hKb10 _) ?_;try dsimp only
 all_goals rfl
def Z73_q (a0:Bs):Bool:=(((((a0==([73,110,116]:Bs)))||((a0==([83,116,114,105,110,103]:Bs))))||((a0==([66,111,111,108,101,97,110]:Bs))))||((a0==([73,68]:Bs))))
theorem Z73_eq (a0:Bs):Z73 a0=some (Z73_q a0):=by
 unfold Z73 Z73_q;all_goals rfl
def Z38_q (a0:Bs):Option Bool:=guardO ((decide ((2:Int)<=((a0.length:Nat):Int)))) (a0[0]?) (0:UInt8) fun x4=>guardO (((decide ((2:Int)<=((a0.length:Nat):Int)))&&(decide (((x4.toNat:Nat):Int)=(95:Int))))) (a0[1]?) (0:UInt8) fun x5=>some (((decide ((2:Int)<=((a0.length:Nat):Int)))&&(decide (((x4.toNat:Nat):Int)=(95:Int))))&&(decide (((x5.toNat:Nat):Int)=(95:Int))))
theorem Z38_eq (a0:Bs):Z38 a0=Z38_q a0:=by
 unfold Z38 Z38_q;refine Qs ?_;refine Q.guardOO rfl fun x4=>?_;refine Q.guardOO rfl fun x5=>?_;all_goals rfl
def Z74_q (a0:Bs):Option Bool:=on (Z37_q a0) fun x3=>guardO (x3) (Z38_q a0) false fun x4=>some (x3&&(!x4))
theorem Z74_eq (a0:Bs):Z74 a0=Z74_q a0:=by
 unfold Z74 Z74_q;refine Qs ?_;refine Q.bindPO (Z37_eq _) fun x3 hx_x3=>?_;refine Q.guardOO (Z38_eq _) fun x4=>?_;all_goals rfl
def Z83_q (a0:Bs) (a1:Bool) (a2:Bool) (a3:Bs):Option (Sl Z3):=guardO (!a1) (Z74_q a0) false fun x12=>Option.bind (bif (a1||(!x12)) then((appC 24 (Sl.nil:Sl Z3) (⟨false,[(Z3.mk (6:Int) a3)]⟩:Sl Z3)).bind fun x14=>some x14) else(some (Sl.nil:Sl Z3))) fun s9_4=>Option.bind (bif a2 then((appC 24 s9_4 (⟨false,[(Z3.mk (7:Int) a3)]⟩:Sl Z3)).bind fun x10=>some x10) else(some s9_4)) fun s9_6=>some s9_6
theorem Z83_eq (a0:Bs) (a1:Bool) (a2:Bool) (a3:Bs):Z83 a0 a1 a2 a3=Z83_q a0 a1 a2 a3:=by
 unfold Z83 Z83_q;refine Qs ?_;refine Q.guardOO (Z74_eq _) fun x12=>?_;refine Q.wrapOO fun Kj3 hKj3=>?_;have hj3:∀(s9_4:(Sl Z3)),Z83_j3 a2 a3 s9_4=Kj3 s9_4:=by
  intro s9_4;refine Qe (hKj3 _) ?_;unfold Z83_j3;refine Q.wrapOO fun Kj5 hKj5=>?_;have hj5:∀(s9_6:(Sl Z3)),Z83_j5  s9_6=Kj5 s9_6:=by
   intro s9_6;refine Qe (hKj5 _) ?_;unfold Z83_j5;all_goals rfl
  refine Q.condO ?_ ?_
  ·refine Q.bindO rfl fun x10=>?_;all_goals exact hj5 _
  all_goals exact hj5 _
 refine Q.condO ?_ ?_
 ·refine Q.bindO rfl fun x14=>?_;all_goals exact hj3 _
 all_goals exact hj3 _
def Z77_q (a0:TDef):Bool:=on (bif (decide (a0.FKind=(1:Int))) then((decide (a0.FKind=(1:Int)))) else((decide (a0.FKind=(2:Int))))) fun s5_6=>bif s5_6 then((decide (((a0.FFields.l.length:Nat):Int)=(0:Int)))) else(on (bif (decide (a0.FKind=(3:Int))) then((decide (a0.FKind=(3:Int)))) else((decide (a0.FKind=(4:Int))))) fun s12_11=>bif s12_11 then((decide (((a0.FMembers.l.length:Nat):Int)=(0:Int)))) else(bif (decide (a0.FKind=(5:Int))) then((decide (((a0.FInputs.l.length:Nat):Int)=(0:Int)))) else(on (()) fun _=>false)))
theorem Z77_eq (a0:TDef):Z77 a0=some (Z77_q a0):=by
 unfold Z77 Z77_q;refine Q.wrapPP fun Kj5 hKj5=>?_;have hj5:∀(s5_6:Bool),Z77_j5 a0 s5_6=Kj5 s5_6:=by
  intro s5_6;refine Qe (hKj5 _) ?_;unfold Z77_j5;refine Q.condP ?_ ?_
  ·all_goals rfl
  refine Q.wrapPP fun Kj10 hKj10=>?_;have hj10:∀(s12_11:Bool),Z77_j10 a0 s12_11=Kj10 s12_11:=by
   intro s12_11;refine Qe (hKj10 _) ?_;unfold Z77_j10;refine Q.condP ?_ ?_
   ·all_goals rfl
   refine Q.condP ?_ ?_
   ·all_goals rfl
   refine Q.wrapPP fun Kj2 hKj2=>?_;have hj2:Z77_j2  =Kj2 ():=by
    refine Qe (hKj2 _) ?_;unfold Z77_j2;all_goals rfl
   all_goals exact hj2
  refine Q.condP ?_ ?_
  ·all_goals exact hj10 _
  all_goals exact hj10 _
 refine Q.condP ?_ ?_
 ·all_goals exact hj5 _
 all_goals exact hj5 _
def Z69_q6 (a1:Bs):List TDef->Unit ⊕ ((TDef×Bool))
 | []=>Sum.inl ()
 | h6::r6=>on (h6) fun x15=>bif ((x15.FName==a1)) then(on (h6) fun x18=>Sum.inr (x18,true)) else(Z69_q6 a1 (r6) )
theorem Z69_l6_qe {a0:TDoc}{a1:Bs}  (Kb6:(Unit ⊕ ((TDef×Bool)))->Option (TDef×Bool)) (hend:∀(n6:Nat) (s6_7:Nat) (y8_l0:TDef),Z69_j2   y8_l0=Kb6 (Sum.inl ())) (hret:∀e:(TDef×Bool),some e=Kb6 (Sum.inr e)):∀(n6:Nat) (s6_7:Nat) (y8_l0:TDef),(0<n6/\a0.FDefs.l.length<s6_7+n6)->Z69_l6 a0 a1 n6 s6_7 y8_l0=Kb6 (Z69_q6 a1 (a0.FDefs.l.drop s6_7) ):=by
 intro n6;induction n6 with
 | zero=>intro s6_7 y8_l0 hn; exact absurd hn.1 (by omega)
 | succ n6 ih6 =>
  intro s6_7 y8_l0 hn;rw [Z69_l6];by_cases hlt:s6_7<a0.FDefs.l.length
  ·obtain⟨h6,hh6⟩:=Qa hlt;rw [Q.drop_of hh6,Z69_q6];refine QT hlt ?_;refine Q.bindP hh6 fun x15 hx_x15=>?_;refine Q.condP ?_ ?_
   ·refine Q.bindP hh6 fun x18 hx_x18=>?_;all_goals exact hret _
   all_goals exact ih6 _ _ ⟨by omega,by omega⟩
  rw [dL (by omega),Z69_q6];refine QF hlt ?_;exact hend n6 s6_7 y8_l0
def Z69_q (a0:TDoc) (a1:Bs):(TDef×Bool):=on (Z69_q6 a1 a0.FDefs.l ) fun o6=>match o6 with|Sum.inl _=>(on (()) fun _=>((TDef.mk (0:Int) ([]:Bs) (Sl.nil:Sl Bs) (Sl.nil:Sl TDir) (Sl.nil:Sl Z4) (Sl.nil:Sl Z6) (Sl.nil:Sl Z5)),false))|Sum.inr e6=>(e6)
theorem Z69_eq (a0:TDoc) (a1:Bs):Z69 a0 a1=some (Z69_q a0 a1):=by
 unfold Z69 Z69_q;refine Q.wrapPP fun Kb6 hKb6=>?_;refine Z69_l6_qe  Kb6 ?_ ?_ _ _ _ ⟨Nat.succ_pos _,by omega⟩
 ·intro n6 s6_7 y8_l0;refine Qe (hKb6 _) ?_;try dsimp only
  refine Q.wrapPP fun Kj2 hKj2=>?_;have hj2:∀(y3_l0:TDef),Z69_j2  y3_l0=Kj2 ():=by
   intro y3_l0;refine Qe (hKj2 _) ?_;unfold Z69_j2;all_goals rfl
  all_goals exact hj2 _
 intro e6;refine Qe (hKb6 _) ?_;try dsimp only
 all_goals rfl
def Z79_q5 (a1:Bs):List Bs->Unit ⊕ Bool
 | []=>Sum.inl ()
 | h5::r5=>on (h5) fun x13=>bif ((x13==a1)) then(Sum.inr true) else(Z79_q5 a1 (r5) )
theorem Z79_l5_qe {a0:(Sl Bs)}{a1:Bs}  (Kb5:(Unit ⊕ Bool)->Option Bool) (hend:∀(n5:Nat) (s5_6:Nat),Z79_j2   =Kb5 (Sum.inl ())) (hret:∀e:Bool,some e=Kb5 (Sum.inr e)):∀(n5:Nat) (s5_6:Nat),(0<n5/\a0.l.length<s5_6+n5)->Z79_l5 a0 a1 n5 s5_6=Kb5 (Z79_q5 a1 (a0.l.drop s5_6) ):=by
 intro n5;induction n5 with
 | zero=>intro s5_6 hn; exact absurd hn.1 (by omega)
 | succ n5 ih5 =>
  intro s5_6 hn;rw [Z79_l5];by_cases hlt:s5_6<a0.l.length
  ·obtain⟨h5,hh5⟩:=Qa hlt;rw [Q.drop_of hh5,Z79_q5];refine QT hlt ?_;refine Q.bindP hh5 fun x13 hx_x13=>?_;refine Q.condP ?_ ?_
   ·all_goals exact hret _
   all_goals exact ih5 _ ⟨by omega,by omega⟩
  rw [dL (by omega),Z79_q5];refine QF hlt ?_;exact hend n5 s5_6
def Z79_q (a0:(Sl Bs)) (a1:Bs):Bool:=on (Z79_q5 a1 a0.l ) fun o5=>match o5 with|Sum.inl _=>(on (()) fun _=>false)|Sum.inr e5=>(e5)
theorem Z79_eq (a0:(Sl Bs)) (a1:Bs):Z79 a0 a1=some (Z79_q a0 a1):=by
 unfold Z79 Z79_q;refine Q.wrapPP fun Kb5 hKb5=>?_;refine Z79_l5_qe  Kb5 ?_ ?_ _ _ ⟨Nat.succ_pos _,by omega⟩
 ·intro n5 s5_6;refine Qe (hKb5 _) ?_;try dsimp only
  refine Q.wrapPP fun Kj2 hKj2=>?_;have hj2:Z79_j2  =Kj2 ():=by
   refine Qe (hKj2 _) ?_;unfold Z79_j2;all_goals rfl
  all_goals exact hj2
 intro e5;refine Qe (hKb5 _) ?_;try dsimp only
 all_goals rfl
def Z76_q (a0:TRef):Option Bool:=guardO ((decide (((a0.FWraps.l.length:Nat):Int)=(1:Int)))) (a0.FWraps.l[0]?) (0:Int) fun x4=>some ((decide (((a0.FWraps.l.length:Nat):Int)=(1:Int)))&&(decide (x4=(1:Int))))
theorem Z76_eq (a0:TRef):Z76 a0=Z76_q a0:=by
 unfold Z76 Z76_q;refine Qs ?_;refine Q.guardOO rfl fun x4=>?_;all_goals rfl
def Z84_q6 (a0:TDoc) (a2:Bs):List Z5->(Sl Bs)->Option ((Sl Bs))
 | [],s3_7=>some s3_7
 | h6::r6,s3_7=>on (h6) fun x16=>on (Z69_q a0 x16.FType.FName) fun x18=>(Z76_q x16.FType).bind fun x20=>on (bif (x20&&(((x16.FType.FName==a2))||(x18.2&&(decide (x18.1.FKind=(5:Int)))))) then Z79_q s3_7 x16.FType.FName else false) fun x21=>Option.bind (bif ((x20&&(((x16.FType.FName==a2))||(x18.2&&(decide (x18.1.FKind=(5:Int))))))&&(!x21)) then((appC 16 s3_7 (⟨false,[x16.FType.FName]⟩:Sl Bs)).bind fun x23=>some x23) else(some s3_7)) fun s3_14=>Z84_q6 a0 a2 (r6) s3_14
theorem Z84_l6_qe {a0:TDoc}{a1:TDef}{a2:Bs}  (Kb6:((Sl Bs))->Option (Sl Bs)) (hend:∀(n6:Nat) (s3_7:(Sl Bs)) (s9_8:Nat),Z84_j2   s3_7=Kb6 s3_7):∀(n6:Nat) (s3_7:(Sl Bs)) (s9_8:Nat),(0<n6/\a1.FInputs.l.length<s9_8+n6)->Z84_l6 a0 a1 a2 n6 s3_7 s9_8=Option.bind (Z84_q6 a0 a2 (a1.FInputs.l.drop s9_8) s3_7) Kb6:=by
 intro n6;induction n6 with
 | zero=>intro s3_7 s9_8 hn; exact absurd hn.1 (by omega)
 | succ n6 ih6 =>
  intro s3_7 s9_8 hn;rw [Z84_l6];by_cases hlt:s9_8<a1.FInputs.l.length
  ·obtain⟨h6,hh6⟩:=Qa hlt;rw [Q.drop_of hh6,Z84_q6];refine QT hlt ?_;refine Q.bindPO hh6 fun x16 hx_x16=>?_;refine Q.bindPO (Z69_eq _ _) fun x18 hx_x18=>?_;refine Q.bindO (Z76_eq _) fun x20=>?_;refine Q.guardPO (Z79_eq _ _) fun x21 hx_x21=>?_;refine Q.wrapOO fun Kj13 hKj13=>?_;have hj13:∀(s3_14:(Sl Bs)),Z84_j13 s9_8 (Z84_l6 a0 a1 a2 n6) s3_14=Kj13 s3_14:=by
    intro s3_14;refine Qe (hKj13 _) ?_;unfold Z84_j13;all_goals exact ih6 _ _ ⟨by omega,by omega⟩
   refine Q.condO ?_ ?_
   ·refine Q.bindO rfl fun x23=>?_;all_goals exact hj13 _
   all_goals exact hj13 _
  rw [dL (by omega),Z84_q6];refine QF hlt ?_;exact hend n6 s3_7 s9_8
def Z84_q (a0:TDoc) (a1:TDef) (a2:Bs) (a3:(Sl Bs)):Option (Sl Bs):=Option.bind (Z84_q6 a0 a2 a1.FInputs.l a3) fun s3_7=>on (s3_7) fun s3_3=>some s3_3
theorem Z84_eq (a0:TDoc) (a1:TDef) (a2:Bs) (a3:(Sl Bs)):Z84 a0 a1 a2 a3=Z84_q a0 a1 a2 a3:=by
 unfold Z84 Z84_q;refine Qs ?_;refine Q.wrapOO fun Kb6 hKb6=>?_;refine Z84_l6_qe  Kb6 ?_ _ _ _ ⟨Nat.succ_pos _,by omega⟩;intro n6 s3_7 s9_8;refine Qe (hKb6 _) ?_;refine Q.wrapPO fun Kj2 hKj2=>?_;have hj2:∀(s3_3:(Sl Bs)),Z84_j2  s3_3=Kj2 s3_3:=by
  intro s3_3;refine Qe (hKj2 _) ?_;unfold Z84_j2;all_goals rfl
 all_goals exact hj2 _
def Z85_q (a0:TDoc) (a1:Int):Option (Sl Z3):=Z85 a0 a1
theorem Z85_eq (a0:TDoc) (a1:Int):Z85 a0 a1=Z85_q a0 a1:=rfl
def Z81_q (a0:TDoc) (a1:Bs):Bool:=on (Z69_q a0 a1) fun x3=>on (Z73_q a1) fun x5=>(x5||x3.2)
theorem Z81_eq (a0:TDoc) (a1:Bs):Z81 a0 a1=some (Z81_q a0 a1):=by
 unfold Z81 Z81_q;refine Q.bindP (Z69_eq _ _) fun x3 hx_x3=>?_;refine Q.bindP (Z73_eq _) fun x5 hx_x5=>?_;all_goals rfl
def Z70_q6 (a1:Bs):List Z5->Unit ⊕ ((Z5×Bool))
 | []=>Sum.inl ()
 | h6::r6=>on (h6) fun x15=>bif ((x15.FName==a1)) then(on (h6) fun x18=>Sum.inr (x18,true)) else(Z70_q6 a1 (r6) )
theorem Z70_l6_qe {a0:(Sl Z5)}{a1:Bs}  (Kb6:(Unit ⊕ ((Z5×Bool)))->Option (Z5×Bool)) (hend:∀(n6:Nat) (s6_7:Nat) (y8_l0:Z5),Z70_j2   y8_l0=Kb6 (Sum.inl ())) (hret:∀e:(Z5×Bool),some e=Kb6 (Sum.inr e)):∀(n6:Nat) (s6_7:Nat) (y8_l0:Z5),(0<n6/\a0.l.length<s6_7+n6)->Z70_l6 a0 a1 n6 s6_7 y8_l0=Kb6 (Z70_q6 a1 (a0.l.drop s6_7) ):=by
 intro n6;induction n6 with
 | zero=>intro s6_7 y8_l0 hn; exact absurd hn.1 (by omega)
 | succ n6 ih6 =>
  intro s6_7 y8_l0 hn;rw [Z70_l6];by_cases hlt:s6_7<a0.l.length
  ·obtain⟨h6,hh6⟩:=Qa hlt;rw [Q.drop_of hh6,Z70_q6];refine QT hlt ?_;refine Q.bindP hh6 fun x15 hx_x15=>?_;refine Q.condP ?_ ?_
   ·refine Q.bindP hh6 fun x18 hx_x18=>?_;all_goals exact hret _
   all_goals exact ih6 _ _ ⟨by omega,by omega⟩
  rw [dL (by omega),Z70_q6];refine QF hlt ?_;exact hend n6 s6_7 y8_l0
def Z70_q (a0:(Sl Z5)) (a1:Bs):(Z5×Bool):=on (Z70_q6 a1 a0.l ) fun o6=>match o6 with|Sum.inl _=>(on (()) fun _=>((Z5.mk ([]:Bs) TRef.zero false Z7.zero (Sl.nil:Sl TDir)),false))|Sum.inr e6=>(e6)
theorem Z70_eq (a0:(Sl Z5)) (a1:Bs):Z70 a0 a1=some (Z70_q a0 a1):=by
 unfold Z70 Z70_q;refine Q.wrapPP fun Kb6 hKb6=>?_;refine Z70_l6_qe  Kb6 ?_ ?_ _ _ _ ⟨Nat.succ_pos _,by omega⟩
 ·intro n6 s6_7 y8_l0;refine Qe (hKb6 _) ?_;try dsimp only
  refine Q.wrapPP fun Kj2 hKj2=>?_;have hj2:∀(y3_l0:Z5),Z70_j2  y3_l0=Kj2 ():=by
   intro y3_l0;refine Qe (hKj2 _) ?_;unfold Z70_j2;all_goals rfl
  all_goals exact hj2 _
 intro e6;refine Qe (hKb6 _) ?_;try dsimp only
 all_goals rfl
def Z72_q (a0:TDoc) (a1:Bs):Bool:=on (Z69_q a0 a1) fun x3=>on (Z73_q a1) fun x5=>(x5||(x3.2&&(decide (x3.1.FKind=(4:Int)))))
theorem Z72_eq (a0:TDoc) (a1:Bs):Z72 a0 a1=some (Z72_q a0 a1):=by
 unfold Z72 Z72_q;refine Q.bindP (Z69_eq _ _) fun x3 hx_x3=>?_;refine Q.bindP (Z73_eq _) fun x5 hx_x5=>?_;all_goals rfl
def Z71_q (a0:TDoc) (a1:Bs):Bool:=on (Z69_q a0 a1) fun x3=>on (Z72_q a0 a1) fun x5=>(x5||(x3.2&&(decide (x3.1.FKind=(5:Int)))))
theorem Z71_eq (a0:TDoc) (a1:Bs):Z71 a0 a1=some (Z71_q a0 a1):=by
 unfold Z71 Z71_q;refine Q.bindP (Z69_eq _ _) fun x3 hx_x3=>?_;refine Q.bindP (Z72_eq _ _) fun x5 hx_x5=>?_;all_goals rfl
def Z80_q7 (a0:TDoc) (a1:(Sl Z5)) (a2:Bs) (a3:Bs):List Z5->Nat->(Sl Z3)->Option ((Sl Z3))
 | [],s10_9,s9_8=>some s9_8
 | h7::r7,s10_9,s9_8=>on (h7) fun x17=>(catC a2 x17.FName).bind fun x18=>(catC x18 a3).bind fun x19=>on ((⟨a1.nl,a1.l.take s10_9⟩:Sl Z5)) fun x21=>on (h7) fun x22=>on (Z70_q x21 x22.FName) fun x23=>on (h7) fun x25=>(Z83_q x25.FName false x23.2 x19).bind fun x26=>(appC 24 s9_8 x26).bind fun x27=>on (h7) fun x29=>on (Z81_q a0 x29.FType.FName) fun x30=>Option.bind (bif (!x30) then((appC 24 x27 (⟨false,[(Z3.mk (8:Int) x19)]⟩:Sl Z3)).bind fun x32=>some x32) else(on (h7) fun x34=>on (Z71_q a0 x34.FType.FName) fun x35=>bif (!x35) then((appC 24 x27 (⟨false,[(Z3.mk (10:Int) x19)]⟩:Sl Z3)).bind fun x37=>some x37) else(some x27))) fun s9_15=>Z80_q7 a0 a1 a2 a3 (r7) (s10_9+1) s9_15
theorem Z80_l7_qe {a0:TDoc}{a1:(Sl Z5)}{a2:Bs}{a3:Bs}  (Kb7:((Sl Z3))->Option (Sl Z3)) (hend:∀(n7:Nat) (s9_8:(Sl Z3)) (s10_9:Nat),Z80_j3   s9_8=Kb7 s9_8):∀(n7:Nat) (s9_8:(Sl Z3)) (s10_9:Nat),(0<n7/\a1.l.length<s10_9+n7)->Z80_l7 a0 a1 a2 a3 n7 s9_8 s10_9=Option.bind (Z80_q7 a0 a1 a2 a3 (a1.l.drop s10_9) s10_9 s9_8) Kb7:=by
 intro n7;induction n7 with
 | zero=>intro s9_8 s10_9 hn; exact absurd hn.1 (by omega)
 | succ n7 ih7 =>
  intro s9_8 s10_9 hn;rw [Z80_l7];by_cases hlt:s10_9<a1.l.length
  ·obtain⟨h7,hh7⟩:=Qa hlt;rw [Q.drop_of hh7,Z80_q7];refine QT hlt ?_;refine Q.bindPO hh7 fun x17 hx_x17=>?_;refine Q.bindO rfl fun x18=>?_;refine Q.bindO rfl fun x19=>?_;refine Q.bindPO (Q.partC_take (by omega)) fun x21 hx_x21=>?_;refine Q.bindPO hh7 fun x22 hx_x22=>?_;refine Q.bindPO (Z70_eq _ _) fun x23 hx_x23=>?_;refine Q.bindPO hh7 fun x25 hx_x25=>?_;refine Q.bindO (Z83_eq _ _ _ _) fun x26=>?_
   refine Q.bindO rfl fun x27=>?_;refine Q.bindPO hh7 fun x29 hx_x29=>?_;refine Q.bindPO (Z81_eq _ _) fun x30 hx_x30=>?_;refine Q.wrapOO fun Kj14 hKj14=>?_;have hj14:∀(s9_15:(Sl Z3)),Z80_j14 s10_9 (Z80_l7 a0 a1 a2 a3 n7) s9_15=Kj14 s9_15:=by
    intro s9_15;refine Qe (hKj14 _) ?_;unfold Z80_j14;all_goals exact ih7 _ _ ⟨by omega,by omega⟩
   refine Q.condO ?_ ?_
   ·refine Q.bindO rfl fun x32=>?_;all_goals exact hj14 _
   refine Q.bindPO hh7 fun x34 hx_x34=>?_;refine Q.bindPO (Z71_eq _ _) fun x35 hx_x35=>?_;refine Q.condO ?_ ?_
   ·refine Q.bindO rfl fun x37=>?_;all_goals exact hj14 _
   all_goals exact hj14 _
  rw [dL (by omega),Z80_q7];refine QF hlt ?_;exact hend n7 s9_8 s10_9
def Z80_q (a0:TDoc) (a1:(Sl Z5)) (a2:Bs) (a3:Bs):Option (Sl Z3):=Option.bind (Z80_q7 a0 a1 a2 a3 a1.l 0 (Sl.nil:Sl Z3)) fun s9_8=>on (s9_8) fun s9_4=>some s9_4
theorem Z80_eq (a0:TDoc) (a1:(Sl Z5)) (a2:Bs) (a3:Bs):Z80 a0 a1 a2 a3=Z80_q a0 a1 a2 a3:=by
 unfold Z80 Z80_q;refine Qs ?_;refine Q.wrapOO fun Kb7 hKb7=>?_;refine Z80_l7_qe  Kb7 ?_ _ _ _ ⟨Nat.succ_pos _,by omega⟩;intro n7 s9_8 s10_9;refine Qe (hKb7 _) ?_;refine Q.wrapPO fun Kj3 hKj3=>?_;have hj3:∀(s9_4:(Sl Z3)),Z80_j3  s9_4=Kj3 s9_4:=by
  intro s9_4;refine Qe (hKj3 _) ?_;unfold Z80_j3;all_goals rfl
 all_goals exact hj3 _
def Z68_q6 (a1:Bs):List Z4->Unit ⊕ ((Z4×Bool))
 | []=>Sum.inl ()
 | h6::r6=>on (h6) fun x15=>bif ((x15.FName==a1)) then(on (h6) fun x18=>Sum.inr (x18,true)) else(Z68_q6 a1 (r6) )
theorem Z68_l6_qe {a0:TDef}{a1:Bs}  (Kb6:(Unit ⊕ ((Z4×Bool)))->Option (Z4×Bool)) (hend:∀(n6:Nat) (s6_7:Nat) (y8_l0:Z4),Z68_j2   y8_l0=Kb6 (Sum.inl ())) (hret:∀e:(Z4×Bool),some e=Kb6 (Sum.inr e)):∀(n6:Nat) (s6_7:Nat) (y8_l0:Z4),(0<n6/\a0.FFields.l.length<s6_7+n6)->Z68_l6 a0 a1 n6 s6_7 y8_l0=Kb6 (Z68_q6 a1 (a0.FFields.l.drop s6_7) ):=by
 intro n6;induction n6 with
 | zero=>intro s6_7 y8_l0 hn; exact absurd hn.1 (by omega)
 | succ n6 ih6 =>
  intro s6_7 y8_l0 hn;rw [Z68_l6];by_cases hlt:s6_7<a0.FFields.l.length
  ·obtain⟨h6,hh6⟩:=Qa hlt;rw [Q.drop_of hh6,Z68_q6];refine QT hlt ?_;refine Q.bindP hh6 fun x15 hx_x15=>?_;refine Q.condP ?_ ?_
   ·refine Q.bindP hh6 fun x18 hx_x18=>?_;all_goals exact hret _
   all_goals exact ih6 _ _ ⟨by omega,by omega⟩
  rw [dL (by omega),Z68_q6];refine QF hlt ?_;exact hend n6 s6_7 y8_l0
def Z68_q (a0:TDef) (a1:Bs):(Z4×Bool):=on (Z68_q6 a1 a0.FFields.l ) fun o6=>match o6 with|Sum.inl _=>(on (()) fun _=>((Z4.mk ([]:Bs) (Sl.nil:Sl Z5) TRef.zero (Sl.nil:Sl TDir)),false))|Sum.inr e6=>(e6)
theorem Z68_eq (a0:TDef) (a1:Bs):Z68 a0 a1=some (Z68_q a0 a1):=by
 unfold Z68 Z68_q;refine Q.wrapPP fun Kb6 hKb6=>?_;refine Z68_l6_qe  Kb6 ?_ ?_ _ _ _ ⟨Nat.succ_pos _,by omega⟩
 ·intro n6 s6_7 y8_l0;refine Qe (hKb6 _) ?_;try dsimp only
  refine Q.wrapPP fun Kj2 hKj2=>?_;have hj2:∀(y3_l0:Z4),Z68_j2  y3_l0=Kj2 ():=by
   intro y3_l0;refine Qe (hKj2 _) ?_;unfold Z68_j2;all_goals rfl
  all_goals exact hj2 _
 intro e6;refine Qe (hKb6 _) ?_;try dsimp only
 all_goals rfl
def Z78_q7 (a0:TDoc) (a1:TDef):List Z4->Nat->(Sl Z3)->Option ((Sl Z3))
 | [],s6_9,s5_8=>some s5_8
 | h7::r7,s6_9,s5_8=>on (h7) fun x17=>(catC a1.FName ([46]:Bs)).bind fun x19=>(catC x19 x17.FName).bind fun x20=>on ((⟨a1.FFields.nl,a1.FFields.l.take s6_9⟩:Sl Z4)) fun x22=>on (Z68_q (TDef.mk (0:Int) ([]:Bs) (Sl.nil:Sl Bs) (Sl.nil:Sl TDir) x22 (Sl.nil:Sl Z6) (Sl.nil:Sl Z5)) x17.FName) fun x23=>(Z83_q x17.FName false x23.2 x20).bind fun x25=>(appC 24 s5_8 x25).bind fun x26=>on (Z69_q a0 x17.FType.FName) fun x28=>on (Z81_q a0 x17.FType.FName) fun x35=>Option.bind (bif (!x35) then((appC 24 x26 (⟨false,[(Z3.mk (8:Int) x20)]⟩:Sl Z3)).bind fun x37=>some x37) else(on (Z73_q x17.FType.FName) fun x39=>bif (((!x39)&&x28.2)&&(decide (x28.1.FKind=(5:Int)))) then((appC 24 x26 (⟨false,[(Z3.mk (10:Int) x20)]⟩:Sl Z3)).bind fun x41=>some x41) else(some x26))) fun s5_30=>(catC x20 ([40]:Bs)).bind fun x31=>(Z80_q a0 x17.FArgs x31 ([41]:Bs)).bind fun x32=>(appC 24 s5_30 x32).bind fun x33=>on (x33) fun s5_15=>Z78_q7 a0 a1 (r7) (s6_9+1) s5_15
theorem Z78_l7_qe {a0:TDoc}{a1:TDef}  (Kb7:((Sl Z3))->Option (Sl Z3)) (hend:∀(n7:Nat) (s5_8:(Sl Z3)) (s6_9:Nat),Z78_j3   s5_8=Kb7 s5_8):∀(n7:Nat) (s5_8:(Sl Z3)) (s6_9:Nat),(0<n7/\a1.FFields.l.length<s6_9+n7)->Z78_l7 a0 a1 n7 s5_8 s6_9=Option.bind (Z78_q7 a0 a1 (a1.FFields.l.drop s6_9) s6_9 s5_8) Kb7:=by
 intro n7;induction n7 with
 | zero=>intro s5_8 s6_9 hn; exact absurd hn.1 (by omega)
 | succ n7 ih7 =>
  intro s5_8 s6_9 hn;rw [Z78_l7];by_cases hlt:s6_9<a1.FFields.l.length
  ·obtain⟨h7,hh7⟩:=Qa hlt;rw [Q.drop_of hh7,Z78_q7];refine QT hlt ?_;refine Q.bindPO hh7 fun x17 hx_x17=>?_;refine Q.bindO rfl fun x19=>?_;refine Q.bindO rfl fun x20=>?_;refine Q.bindPO (Q.partC_take (by omega)) fun x22 hx_x22=>?_;refine Q.bindPO (Z68_eq _ _) fun x23 hx_x23=>?_;refine Q.bindO (Z83_eq _ _ _ _) fun x25=>?_;refine Q.bindO rfl fun x26=>?_;refine Q.bindPO (Z69_eq _ _) fun x28 hx_x28=>?_
   refine Q.bindPO (Z81_eq _ _) fun x35 hx_x35=>?_;refine Q.wrapOO fun Kj29 hKj29=>?_;have hj29:∀(s5_30:(Sl Z3)),Z78_j29 a0 s6_9 x17 x20 (Z78_l7 a0 a1 n7) s5_30=Kj29 s5_30:=by
    intro s5_30;refine Qe (hKj29 _) ?_;unfold Z78_j29;refine Q.bindO rfl fun x31=>?_;refine Q.bindO (Z80_eq _ _ _ _) fun x32=>?_;refine Q.bindO rfl fun x33=>?_;refine Q.wrapPO fun Kj14 hKj14=>?_;have hj14:∀(s5_15:(Sl Z3)),Z78_j14 s6_9 (Z78_l7 a0 a1 n7) s5_15=Kj14 s5_15:=by
     intro s5_15;refine Qe (hKj14 _) ?_;unfold Z78_j14;all_goals exact ih7 _ _ ⟨by omega,by omega⟩
    all_goals exact hj14 _
   refine Q.condO ?_ ?_
   ·refine Q.bindO rfl fun x37=>?_;all_goals exact hj29 _
   refine Q.bindPO (Z73_eq _) fun x39 hx_x39=>?_;refine Q.condO ?_ ?_
   ·refine Q.bindO rfl fun x41=>?_;all_goals exact hj29 _
   all_goals exact hj29 _
  rw [dL (by omega),Z78_q7];refine QF hlt ?_;exact hend n7 s5_8 s6_9
def Z78_q (a0:TDoc) (a1:TDef):Option (Sl Z3):=Option.bind (Z78_q7 a0 a1 a1.FFields.l 0 (Sl.nil:Sl Z3)) fun s5_8=>on (s5_8) fun s5_4=>some s5_4
theorem Z78_eq (a0:TDoc) (a1:TDef):Z78 a0 a1=Z78_q a0 a1:=by
 unfold Z78 Z78_q;refine Qs ?_;refine Q.wrapOO fun Kb7 hKb7=>?_;refine Z78_l7_qe  Kb7 ?_ _ _ _ ⟨Nat.succ_pos _,by omega⟩;intro n7 s5_8 s6_9;refine Qe (hKb7 _) ?_;refine Q.wrapPO fun Kj3 hKj3=>?_;have hj3:∀(s5_4:(Sl Z3)),Z78_j3  s5_4=Kj3 s5_4:=by
  intro s5_4;refine Qe (hKj3 _) ?_;unfold Z78_j3;all_goals rfl
 all_goals exact hj3 _
def Z82_q26 (a0:TDef) (x17:Z6):Nat->Nat->Bool->Option (Bool)
 | 0,s7_28,s6_27=>some s6_27
 | r26+1,s7_28,s6_27=>guardO (!s6_27) (a0.FMembers.l[s7_28]?) Z6.zero fun x33=>Z82_q26 a0 x17 (r26) (s7_28+1) (s6_27||((x33.FName==x17.FName)))
theorem Z82_l26_qe {a0:TDef}{s3_8:(Sl Z3)}{s4_9:Nat}{x17:Z6}{k_next_7:(Sl Z3)->Nat->Option (Sl Z3)}  (Kb26:(Bool)->Option (Sl Z3)) (hend:∀(n26:Nat) (s6_27:Bool) (s7_28:Nat),Z82_j19 a0 s3_8 s4_9 x17 k_next_7 s6_27=Kb26 s6_27):∀(n26:Nat) (s6_27:Bool) (s7_28:Nat),(0<n26/\s4_9<s7_28+n26)->Z82_l26 a0 s3_8 s4_9 x17 k_next_7 n26 s6_27 s7_28=Option.bind (Z82_q26 a0 x17 (s4_9-s7_28) s7_28 s6_27) Kb26:=by
 intro n26;induction n26 with
 | zero=>intro s6_27 s7_28 hn; exact absurd hn.1 (by omega)
 | succ n26 ih26 =>
  intro s6_27 s7_28 hn;rw [Z82_l26];by_cases hlt:s7_28<s4_9
  ·rw [show s4_9-s7_28=(s4_9-(s7_28+1))+1 by omega,Z82_q26];refine QT hlt ?_;refine Q.guardOO rfl fun x33=>?_;all_goals exact ih26 _ _ ⟨by omega,by omega⟩
  rw [show s4_9-s7_28=0 by omega,Z82_q26];refine QF hlt ?_;exact hend n26 s6_27 s7_28
def Z82_q7 (a0:TDef):List Z6->Nat->(Sl Z3)->Option ((Sl Z3))
 | [],s4_9,s3_8=>some s3_8
 | h7::r7,s4_9,s3_8=>on (h7) fun x17=>Option.bind (Z82_q26 a0 x17 s4_9 0 false) fun s6_27=>on (s6_27) fun s6_20=>(catC a0.FName ([46]:Bs)).bind fun x21=>(catC x21 x17.FName).bind fun x22=>(Z83_q x17.FName ((((x17.FName==([116,114,117,101]:Bs)))||((x17.FName==([102,97,108,115,101]:Bs))))||((x17.FName==([110,117,108,108]:Bs)))) s6_20 x22).bind fun x23=>(appC 24 s3_8 x23).bind fun x24=>on (x24) fun s3_15=>Z82_q7 a0 (r7) (s4_9+1) s3_15
theorem Z82_l7_qe {a0:TDef}  (Kb7:((Sl Z3))->Option (Sl Z3)) (hend:∀(n7:Nat) (s3_8:(Sl Z3)) (s4_9:Nat),Z82_j3   s3_8=Kb7 s3_8):∀(n7:Nat) (s3_8:(Sl Z3)) (s4_9:Nat),(0<n7/\a0.FMembers.l.length<s4_9+n7)->Z82_l7 a0 n7 s3_8 s4_9=Option.bind (Z82_q7 a0 (a0.FMembers.l.drop s4_9) s4_9 s3_8) Kb7:=by
 intro n7;induction n7 with
 | zero=>intro s3_8 s4_9 hn; exact absurd hn.1 (by omega)
 | succ n7 ih7 =>
  intro s3_8 s4_9 hn;rw [Z82_l7];by_cases hlt:s4_9<a0.FMembers.l.length
  ·obtain⟨h7,hh7⟩:=Qa hlt;rw [Q.drop_of hh7,Z82_q7];refine QT hlt ?_;refine Q.bindPO hh7 fun x17 hx_x17=>?_;refine Q.wrapOO fun Kb26 hKb26=>?_;refine Z82_l26_qe  Kb26 ?_ _ _ _ ⟨Nat.succ_pos _,by omega⟩;intro n26 s6_27 s7_28;refine Qe (hKb26 _) ?_;refine Q.wrapPO fun Kj19 hKj19=>?_;have hj19:∀(s6_20:Bool),Z82_j19 a0 s3_8 s4_9 x17 (Z82_l7 a0 n7) s6_20=Kj19 s6_20:=by
    intro s6_20;refine Qe (hKj19 _) ?_;unfold Z82_j19;refine Q.bindO rfl fun x21=>?_;refine Q.bindO rfl fun x22=>?_;refine Q.bindO (Z83_eq _ _ _ _) fun x23=>?_;refine Q.bindO rfl fun x24=>?_;refine Q.wrapPO fun Kj14 hKj14=>?_;have hj14:∀(s3_15:(Sl Z3)),Z82_j14 s4_9 (Z82_l7 a0 n7) s3_15=Kj14 s3_15:=by
     intro s3_15;refine Qe (hKj14 _) ?_;unfold Z82_j14;all_goals exact ih7 _ _ ⟨by omega,by omega⟩
    all_goals exact hj14 _
   all_goals exact hj19 _
  rw [dL (by omega),Z82_q7];refine QF hlt ?_;exact hend n7 s3_8 s4_9
def Z82_q (a0:TDef):Option (Sl Z3):=Option.bind (Z82_q7 a0 a0.FMembers.l 0 (Sl.nil:Sl Z3)) fun s3_8=>on (s3_8) fun s3_4=>some s3_4
theorem Z82_eq (a0:TDef):Z82 a0=Z82_q a0:=by
 unfold Z82 Z82_q;refine Qs ?_;refine Q.wrapOO fun Kb7 hKb7=>?_;refine Z82_l7_qe  Kb7 ?_ _ _ _ ⟨Nat.succ_pos _,by omega⟩;intro n7 s3_8 s4_9;refine Qe (hKb7 _) ?_;refine Q.wrapPO fun Kj3 hKj3=>?_;have hj3:∀(s3_4:(Sl Z3)),Z82_j3  s3_4=Kj3 s3_4:=by
  intro s3_4;refine Qe (hKj3 _) ?_;unfold Z82_j3;all_goals rfl
 all_goals exact hj3 _
def Z67_q14 (a0:TDoc):List TDef->Nat->(Sl Z3)->Option ((Sl Z3))
 | [],s6_16,s5_15=>some s5_15
 | h14::r14,s6_16,s5_15=>on (h14) fun x24=>(Z85_q a0 ((s6_16:Nat):Int)).bind fun x26=>(appC 24 s5_15 x26).bind fun x27=>on (bif (decide (x24.FKind=(1:Int))) then((decide (x24.FKind=(1:Int)))) else((decide (x24.FKind=(2:Int))))) fun s29_30=>Option.bind (bif s29_30 then((Z78_q a0 x24).bind fun x32=>(appC 24 x27 x32).bind fun x33=>some x33) else(bif (decide (x24.FKind=(4:Int))) then((Z82_q x24).bind fun x36=>(appC 24 x27 x36).bind fun x37=>some x37) else(bif (decide (x24.FKind=(5:Int))) then((catC x24.FName ([46]:Bs)).bind fun x40=>(Z80_q a0 x24.FInputs x40 ([]:Bs)).bind fun x41=>(appC 24 x27 x41).bind fun x42=>some x42) else(some x27)))) fun s5_22=>Z67_q14 a0 (r14) (s6_16+1) s5_22
theorem Z67_l14_qe {a0:TDoc}{a1:Bool}  (Kb14:((Sl Z3))->Option (Sl Z3)) (hend:∀(n14:Nat) (s5_15:(Sl Z3)) (s6_16:Nat),Z67_j3 a0 a1  s5_15=Kb14 s5_15):∀(n14:Nat) (s5_15:(Sl Z3)) (s6_16:Nat),(0<n14/\a0.FDefs.l.length<s6_16+n14)->Z67_l14 a0 a1 n14 s5_15 s6_16=Option.bind (Z67_q14 a0 (a0.FDefs.l.drop s6_16) s6_16 s5_15) Kb14:=by
 intro n14;induction n14 with
 | zero=>intro s5_15 s6_16 hn; exact absurd hn.1 (by omega)
 | succ n14 ih14 =>
  intro s5_15 s6_16 hn;rw [Z67_l14];by_cases hlt:s6_16<a0.FDefs.l.length
  ·obtain⟨h14,hh14⟩:=Qa hlt;rw [Q.drop_of hh14,Z67_q14];refine QT hlt ?_;refine Q.bindPO hh14 fun x24 hx_x24=>?_;refine Q.bindO (Z85_eq _ _) fun x26=>?_;refine Q.bindO rfl fun x27=>?_;refine Q.wrapPO fun Kj29 hKj29=>?_;have hj29:∀(s29_30:Bool),Z67_j29 a0 s6_16 x24 x27 (Z67_l14 a0 a1 n14) s29_30=Kj29 s29_30:=by
    intro s29_30;refine Qe (hKj29 _) ?_;unfold Z67_j29;refine Q.wrapOO fun Kj21 hKj21=>?_;have hj21:∀(s5_22:(Sl Z3)),Z67_j21 s6_16 (Z67_l14 a0 a1 n14) s5_22=Kj21 s5_22:=by
     intro s5_22;refine Qe (hKj21 _) ?_;unfold Z67_j21;all_goals exact ih14 _ _ ⟨by omega,by omega⟩
    refine Q.condO ?_ ?_
    ·refine Q.bindO (Z78_eq _ _) fun x32=>?_;refine Q.bindO rfl fun x33=>?_;all_goals exact hj21 _
    refine Q.condO ?_ ?_
    ·refine Q.bindO (Z82_eq _) fun x36=>?_;refine Q.bindO rfl fun x37=>?_;all_goals exact hj21 _
    refine Q.condO ?_ ?_
    ·refine Q.bindO rfl fun x40=>?_;refine Q.bindO (Z80_eq _ _ _ _) fun x41=>?_;refine Q.bindO rfl fun x42=>?_;all_goals exact hj21 _
    all_goals exact hj21 _
   refine Q.condP ?_ ?_
   ·all_goals exact hj29 _
   all_goals exact hj29 _
  rw [dL (by omega),Z67_q14];refine QF hlt ?_;exact hend n14 s5_15 s6_16
def Z67_q (a0:TDoc) (a1:Bool):Option (Sl Z3):=Option.bind (Z67_q14 a0 a0.FDefs.l 0 (Sl.nil:Sl Z3)) fun s5_15=>on (s5_15) fun s5_4=>on (Z69_q a0 ([81,117,101,114,121]:Bs)) fun x6=>Option.bind (bif (a1&&(!x6.2)) then((appC 24 s5_4 (⟨false,[(Z3.mk (30:Int) ([81,117,101,114,121]:Bs))]⟩:Sl Z3)).bind fun x12=>some x12) else(some s5_4)) fun s5_8=>some s5_8
theorem Z67_eq (a0:TDoc) (a1:Bool):Z67 a0 a1=Z67_q a0 a1:=by
 unfold Z67 Z67_q;refine Qs ?_;refine Q.wrapOO fun Kb14 hKb14=>?_;refine Z67_l14_qe  Kb14 ?_ _ _ _ ⟨Nat.succ_pos _,by omega⟩;intro n14 s5_15 s6_16;refine Qe (hKb14 _) ?_;refine Q.wrapPO fun Kj3 hKj3=>?_;have hj3:∀(s5_4:(Sl Z3)),Z67_j3 a0 a1 s5_4=Kj3 s5_4:=by
  intro s5_4;refine Qe (hKj3 _) ?_;unfold Z67_j3;refine Q.bindPO (Z69_eq _ _) fun x6 hx_x6=>?_;refine Q.wrapOO fun Kj7 hKj7=>?_;have hj7:∀(s5_8:(Sl Z3)),Z67_j7  s5_8=Kj7 s5_8:=by
   intro s5_8;refine Qe (hKj7 _) ?_;unfold Z67_j7;all_goals rfl
  refine Q.condO ?_ ?_
  ·refine Q.bindO rfl fun x12=>?_;all_goals exact hj7 _
  all_goals exact hj7 _
 all_goals exact hj3 _
def Z93_q (a0:TDoc) (a1:Bs) (a2:Int):Int:=on (Z69_q a0 a1) fun x3=>on (bif (!x3.2) then Z73_q a1 else false) fun x6=>bif ((!x3.2)&&(!x6)) then((8:Int)) else(bif (!decide (x3.1.FKind=a2)) then((9:Int)) else((0:Int)))
theorem Z93_eq (a0:TDoc) (a1:Bs) (a2:Int):Z93 a0 a1 a2=some (Z93_q a0 a1 a2):=by
 unfold Z93 Z93_q;refine Q.bindP (Z69_eq _ _) fun x3 hx_x3=>?_;refine Q.guardP (Z73_eq _) fun x6 hx_x6=>?_;refine Q.condP ?_ ?_
 ·all_goals rfl
 refine Q.condP ?_ ?_
 ·all_goals rfl
 all_goals rfl
def Z92_q5 (a1:Bs):List Bs->Unit ⊕ Bool
 | []=>Sum.inl ()
 | h5::r5=>on (h5) fun x13=>bif ((x13==a1)) then(Sum.inr true) else(Z92_q5 a1 (r5) )
theorem Z92_l5_qe {a0:(Sl Bs)}{a1:Bs}  (Kb5:(Unit ⊕ Bool)->Option Bool) (hend:∀(n5:Nat) (s5_6:Nat),Z92_j2   =Kb5 (Sum.inl ())) (hret:∀e:Bool,some e=Kb5 (Sum.inr e)):∀(n5:Nat) (s5_6:Nat),(0<n5/\a0.l.length<s5_6+n5)->Z92_l5 a0 a1 n5 s5_6=Kb5 (Z92_q5 a1 (a0.l.drop s5_6) ):=by
 intro n5;induction n5 with
 | zero=>intro s5_6 hn; exact absurd hn.1 (by omega)
 | succ n5 ih5 =>
  intro s5_6 hn;rw [Z92_l5];by_cases hlt:s5_6<a0.l.length
  ·obtain⟨h5,hh5⟩:=Qa hlt;rw [Q.drop_of hh5,Z92_q5];refine QT hlt ?_;refine Q.bindP hh5 fun x13 hx_x13=>?_;refine Q.condP ?_ ?_
   ·all_goals exact hret _
   all_goals exact ih5 _ ⟨by omega,by omega⟩
  rw [dL (by omega),Z92_q5];refine QF hlt ?_;exact hend n5 s5_6
def Z92_q (a0:(Sl Bs)) (a1:Bs):Bool:=on (Z92_q5 a1 a0.l ) fun o5=>match o5 with|Sum.inl _=>(on (()) fun _=>false)|Sum.inr e5=>(e5)
theorem Z92_eq (a0:(Sl Bs)) (a1:Bs):Z92 a0 a1=some (Z92_q a0 a1):=by
 unfold Z92 Z92_q;refine Q.wrapPP fun Kb5 hKb5=>?_;refine Z92_l5_qe  Kb5 ?_ ?_ _ _ ⟨Nat.succ_pos _,by omega⟩
 ·intro n5 s5_6;refine Qe (hKb5 _) ?_;try dsimp only
  refine Q.wrapPP fun Kj2 hKj2=>?_;have hj2:Z92_j2  =Kj2 ():=by
   refine Qe (hKj2 _) ?_;unfold Z92_j2;all_goals rfl
  all_goals exact hj2
 intro e5;refine Qe (hKb5 _) ?_;try dsimp only
 all_goals rfl
def Z55_q11 (a1:(Sl Int)):List Int->Nat->Option (Unit ⊕ Bool)
 | [],s5_12=>some (Sum.inl ())
 | h11::r11,s5_12=>on (h11) fun x19=>(a1.l[s5_12]?).bind fun x20=>bif (!decide (x19=x20)) then(some (Sum.inr false)) else(Z55_q11 a1 (r11) (s5_12+1) )
theorem Z55_l11_qe {a0:(Sl Int)}{a1:(Sl Int)}  (Kb11:(Unit ⊕ Bool)->Option Bool) (hend:∀(n11:Nat) (s5_12:Nat),Z55_j8   =Kb11 (Sum.inl ())) (hret:∀e:Bool,some e=Kb11 (Sum.inr e)):∀(n11:Nat) (s5_12:Nat),(0<n11/\a0.l.length<s5_12+n11)->Z55_l11 a0 a1 n11 s5_12=Option.bind (Z55_q11 a1 (a0.l.drop s5_12) s5_12 ) Kb11:=by
 intro n11;induction n11 with
 | zero=>intro s5_12 hn; exact absurd hn.1 (by omega)
 | succ n11 ih11 =>
  intro s5_12 hn;rw [Z55_l11];by_cases hlt:s5_12<a0.l.length
  ·obtain⟨h11,hh11⟩:=Qa hlt;rw [Q.drop_of hh11,Z55_q11];refine QT hlt ?_;refine Q.bindPO hh11 fun x19 hx_x19=>?_;refine Q.bindO rfl fun x20=>?_;refine Q.condO ?_ ?_
   ·all_goals exact hret _
   all_goals exact ih11 _ ⟨by omega,by omega⟩
  rw [dL (by omega),Z55_q11];refine QF hlt ?_;exact hend n11 s5_12
def Z55_q (a0:(Sl Int)) (a1:(Sl Int)):Option Bool:=bif (!decide (((a0.l.length:Nat):Int)=((a1.l.length:Nat):Int))) then(some false) else(Option.bind (Z55_q11 a1 a0.l 0 ) fun o11=>match o11 with|Sum.inl _=>(on (()) fun _=>some true)|Sum.inr e11=>(some e11))
theorem Z55_eq (a0:(Sl Int)) (a1:(Sl Int)):Z55 a0 a1=Z55_q a0 a1:=by
 unfold Z55 Z55_q;refine Qs ?_;refine Q.condO ?_ ?_
 ·all_goals rfl
 refine Q.wrapOO fun Kb11 hKb11=>?_;refine Z55_l11_qe  Kb11 ?_ ?_ _ _ ⟨Nat.succ_pos _,by omega⟩
 ·intro n11 s5_12;refine Qe (hKb11 _) ?_;try dsimp only
  refine Q.wrapPO fun Kj8 hKj8=>?_;have hj8:Z55_j8  =Kj8 ():=by
   refine Qe (hKj8 _) ?_;unfold Z55_j8;all_goals rfl
  all_goals exact hj8
 intro e11;refine Qe (hKb11 _) ?_;try dsimp only
 all_goals rfl
def Z53_q (a0:TRef) (a1:TRef):Option Bool:=guardO (((a0.FName==a1.FName))) (Z55_q a0.FWraps a1.FWraps) false fun x3=>some (((a0.FName==a1.FName))&&x3)
theorem Z53_eq (a0:TRef) (a1:TRef):Z53 a0 a1=Z53_q a0 a1:=by
 unfold Z53 Z53_q;refine Qs ?_;refine Q.guardOO (Z55_eq _ _) fun x3=>?_;all_goals rfl
def Z50_q (a0:TRef):Bool:=on (bif (decide ((0:Int)<((a0.FWraps.l.length:Nat):Int))) then((a0.FWraps.l)[0]?.getD (0:Int)) else(0:Int)) fun x4=>((decide ((0:Int)<((a0.FWraps.l.length:Nat):Int)))&&(decide (x4=(1:Int))))
theorem Z50_eq (a0:TRef):Z50 a0=some (Z50_q a0):=by
 unfold Z50 Z50_q;refine Q.guardT (fun hc=>Q.getD_some (by simp at hc; omega)) fun x4 hx_x4=>?_;all_goals rfl
def Z54_q (a0:TRef):Option TRef:=(partC a0.FWraps (some (1:Int)) none).bind fun x3=>(appC 8 (⟨false,[]⟩:Sl Int) x3).bind fun x4=>some (TRef.mk a0.FName x4)
theorem Z54_eq (a0:TRef):Z54 a0=Z54_q a0:=by
 unfold Z54 Z54_q;refine Qs ?_;refine Q.bindO rfl fun x3=>?_;refine Q.bindO rfl fun x4=>?_;all_goals rfl
def Z51_q (a0:TRef):Option TRef:=on (Z50_q a0) fun x4=>bif x4 then((Z54_q a0).bind fun x7=>some x7) else((appC 8 (⟨false,[]⟩:Sl Int) a0.FWraps).bind fun x9=>some (TRef.mk a0.FName x9))
theorem Z51_eq (a0:TRef):Z51 a0=Z51_q a0:=by
 unfold Z51 Z51_q;refine Qs ?_;refine Q.bindPO (Z50_eq _) fun x4 hx_x4=>?_;refine Q.condO ?_ ?_
 ·refine Q.bindO (Z54_eq _) fun x7=>?_;all_goals rfl
 refine Q.bindO rfl fun x9=>?_;all_goals rfl
def Z49_q (a0:TRef):Option Bool:=(Z51_q a0).bind fun x3=>on (bif (decide ((0:Int)<((x3.FWraps.l.length:Nat):Int))) then((x3.FWraps.l)[0]?.getD (0:Int)) else(0:Int)) fun x6=>some ((decide ((0:Int)<((x3.FWraps.l.length:Nat):Int)))&&(decide (x6=(2:Int))))
theorem Z49_eq (a0:TRef):Z49 a0=Z49_q a0:=by
 unfold Z49 Z49_q;refine Qs ?_;refine Q.bindO (Z51_eq _) fun x3=>?_;refine Q.guardTO (fun hc=>Q.getD_some (by simp at hc; omega)) fun x6 hx_x6=>?_;all_goals rfl
def Z48_q (a0:TRef):Option (TRef×Bool):=(Z49_q a0).bind fun x4=>bif (!x4) then(some ((TRef.mk ([]:Bs) (Sl.nil:Sl Int)),false)) else((Z51_q a0).bind fun x8=>(Z54_q x8).bind fun x9=>some (x9,true))
theorem Z48_eq (a0:TRef):Z48 a0=Z48_q a0:=by
 unfold Z48 Z48_q;refine Qs ?_;refine Q.bindO (Z49_eq _) fun x4=>?_;refine Q.condO ?_ ?_
 ·all_goals rfl
 refine Q.bindO (Z51_eq _) fun x8=>?_;refine Q.bindO (Z54_eq _) fun x9=>?_;all_goals rfl
def Z94_q5 (a1:Bs):List Z6->Unit ⊕ Bool
 | []=>Sum.inl ()
 | h5::r5=>on (h5) fun x13=>bif ((x13.FName==a1)) then(Sum.inr true) else(Z94_q5 a1 (r5) )
theorem Z94_l5_qe {a0:TDef}{a1:Bs}  (Kb5:(Unit ⊕ Bool)->Option Bool) (hend:∀(n5:Nat) (s5_6:Nat),Z94_j2   =Kb5 (Sum.inl ())) (hret:∀e:Bool,some e=Kb5 (Sum.inr e)):∀(n5:Nat) (s5_6:Nat),(0<n5/\a0.FMembers.l.length<s5_6+n5)->Z94_l5 a0 a1 n5 s5_6=Kb5 (Z94_q5 a1 (a0.FMembers.l.drop s5_6) ):=by
 intro n5;induction n5 with
 | zero=>intro s5_6 hn; exact absurd hn.1 (by omega)
 | succ n5 ih5 =>
  intro s5_6 hn;rw [Z94_l5];by_cases hlt:s5_6<a0.FMembers.l.length
  ·obtain⟨h5,hh5⟩:=Qa hlt;rw [Q.drop_of hh5,Z94_q5];refine QT hlt ?_;refine Q.bindP hh5 fun x13 hx_x13=>?_;refine Q.condP ?_ ?_
   ·all_goals exact hret _
   all_goals exact ih5 _ ⟨by omega,by omega⟩
  rw [dL (by omega),Z94_q5];refine QF hlt ?_;exact hend n5 s5_6
def Z94_q (a0:TDef) (a1:Bs):Bool:=on (Z94_q5 a1 a0.FMembers.l ) fun o5=>match o5 with|Sum.inl _=>(on (()) fun _=>false)|Sum.inr e5=>(e5)
theorem Z94_eq (a0:TDef) (a1:Bs):Z94 a0 a1=some (Z94_q a0 a1):=by
 unfold Z94 Z94_q;refine Q.wrapPP fun Kb5 hKb5=>?_;refine Z94_l5_qe  Kb5 ?_ ?_ _ _ ⟨Nat.succ_pos _,by omega⟩
 ·intro n5 s5_6;refine Qe (hKb5 _) ?_;try dsimp only
  refine Q.wrapPP fun Kj2 hKj2=>?_;have hj2:Z94_j2  =Kj2 ():=by
   refine Qe (hKj2 _) ?_;unfold Z94_j2;all_goals rfl
  all_goals exact hj2
 intro e5;refine Qe (hKb5 _) ?_;try dsimp only
 all_goals rfl
def Z91_q (a0:TDoc) (a1:Int):Option Bool:=Z91 a0 a1
theorem Z91_eq (a0:TDoc) (a1:Int):Z91 a0 a1=Z91_q a0 a1:=rfl
def Z88_q9 (a0:TDoc) (a1:Bs) (x4:(TDef×Bool)):List TDef->Nat->(Sl Bs)->Option ((Sl Bs))
 | [],s8_11,s5_10=>some s5_10
 | h9::r9,s8_11,s5_10=>bif x4.2 then(on (h9) fun x19=>guardO (!(!decide (x19.FKind=(1:Int)))) (Z91_q a0 ((s8_11:Nat):Int)) false fun x22=>Option.bind (bif ((!decide (x19.FKind=(1:Int)))||(!x22)) then(some s5_10) else(on (bif (!((decide (x4.1.FKind=(1:Int)))&&((x19.FName==a1)))&&(decide (x4.1.FKind=(2:Int)))) then Z92_q x19.FImplements a1 else false) fun x26=>on (bif (!(((decide (x4.1.FKind=(1:Int)))&&((x19.FName==a1)))||((decide (x4.1.FKind=(2:Int)))&&x26))&&(decide (x4.1.FKind=(3:Int)))) then Z94_q x4.1 x19.FName else false) fun x28=>bif ((((decide (x4.1.FKind=(1:Int)))&&((x19.FName==a1)))||((decide (x4.1.FKind=(2:Int)))&&x26))||((decide (x4.1.FKind=(3:Int)))&&x28)) then((appC 16 s5_10 (⟨false,[x19.FName]⟩:Sl Bs)).bind fun x31=>some x31) else(some s5_10))) fun s5_17=>Z88_q9 a0 a1 x4 (r9) (s8_11+1) s5_17) else(some s5_10)
theorem Z88_l9_qe {a0:TDoc}{a1:Bs}{x4:(TDef×Bool)}  (Kb9:((Sl Bs))->Option (Sl Bs)) (hend:∀(n9:Nat) (s5_10:(Sl Bs)) (s8_11:Nat),Z88_j5   s5_10=Kb9 s5_10):∀(n9:Nat) (s5_10:(Sl Bs)) (s8_11:Nat),(0<n9/\a0.FDefs.l.length<s8_11+n9)->Z88_l9 a0 a1 x4 n9 s5_10 s8_11=Option.bind (Z88_q9 a0 a1 x4 (a0.FDefs.l.drop s8_11) s8_11 s5_10) Kb9:=by
 intro n9;induction n9 with
 | zero=>intro s5_10 s8_11 hn; exact absurd hn.1 (by omega)
 | succ n9 ih9 =>
  intro s5_10 s8_11 hn;rw [Z88_l9];by_cases hlt:s8_11<a0.FDefs.l.length
  ·obtain⟨h9,hh9⟩:=Qa hlt;rw [Q.drop_of hh9,Z88_q9];refine Q.condAT (Q.ltT hlt) ?_;refine Q.condO ?_ ?_
   ·refine Q.bindPO hh9 fun x19 hx_x19=>?_;refine Q.guardOO (Z91_eq _ _) fun x22=>?_;refine Q.wrapOO fun Kj16 hKj16=>?_;have hj16:∀(s5_17:(Sl Bs)),Z88_j16 s8_11 (Z88_l9 a0 a1 x4 n9) s5_17=Kj16 s5_17:=by
     intro s5_17;refine Qe (hKj16 _) ?_;unfold Z88_j16;all_goals exact ih9 _ _ ⟨by omega,by omega⟩
    refine Q.condO ?_ ?_
    ·all_goals exact hj16 _
    refine Q.guardPO (Z92_eq _ _) fun x26 hx_x26=>?_;refine Q.guardPO (Z94_eq _ _) fun x28 hx_x28=>?_;refine Q.condO ?_ ?_
    ·refine Q.bindO rfl fun x31=>?_;all_goals exact hj16 _
    all_goals exact hj16 _
   all_goals exact hend n9 s5_10 s8_11
  rw [dL (by omega),Z88_q9];refine Q.condAF (Q.ltF hlt) ?_;exact hend n9 s5_10 s8_11
def Z88_q (a0:TDoc) (a1:Bs):Option (Sl Bs):=on (Z69_q a0 a1) fun x4=>Option.bind (Z88_q9 a0 a1 x4 a0.FDefs.l 0 (Sl.nil:Sl Bs)) fun s5_10=>on (s5_10) fun s5_6=>some s5_6
theorem Z88_eq (a0:TDoc) (a1:Bs):Z88 a0 a1=Z88_q a0 a1:=by
 unfold Z88 Z88_q;refine Qs ?_;refine Q.bindPO (Z69_eq _ _) fun x4 hx_x4=>?_;refine Q.wrapOO fun Kb9 hKb9=>?_;refine Z88_l9_qe  Kb9 ?_ _ _ _ ⟨Nat.succ_pos _,by omega⟩;intro n9 s5_10 s8_11;refine Qe (hKb9 _) ?_;refine Q.wrapPO fun Kj5 hKj5=>?_;have hj5:∀(s5_6:(Sl Bs)),Z88_j5  s5_6=Kj5 s5_6:=by
  intro s5_6;refine Qe (hKj5 _) ?_;unfold Z88_j5;all_goals rfl
 all_goals exact hj5 _
end Go.Proofs

namespace Go.Proofs
open Go Go.Ab
def Z87_q (a0:TDoc) (a1:Bs) (a2:Bs):Option Bool:=(Z88_q a0 a2).bind fun x3=>on (Z92_q x3 a1) fun x4=>some x4
theorem Z87_eq (a0:TDoc) (a1:Bs) (a2:Bs):Z87 a0 a1 a2=Z87_q a0 a1 a2:=by
 unfold Z87 Z87_q;refine Qs ?_;refine Q.bindO (Z88_eq _ _) fun x3=>?_;refine Q.bindPO (Z92_eq _ _) fun x4 hx_x4=>?_;all_goals rfl
def Z89_qn:Nat->TDoc->TRef->TRef->Option Bool
 | 0,_,_,_=>none
 | n+1,a0,a1,a2=>on (Z50_q a2) fun x4=>bif x4 then(on (Z50_q a1) fun x7=>guardO (x7) (Z51_q a1) TRef.zero fun x8=>guardO (x7) (Z51_q a2) TRef.zero fun x9=>guardO (x7) ((Z89_qn n) a0 x8 x9) false fun x10=>some (x7&&x10)) else(on (Z50_q a1) fun x13=>bif x13 then((Z51_q a1).bind fun x16=>((Z89_qn n) a0 x16 a2).bind fun x17=>some x17) else((Z48_q a1).bind fun x19=>(Z48_q a2).bind fun x21=>bif (x19.2&&x21.2) then(((Z89_qn n) a0 x19.1 x21.1).bind fun x26=>some x26) else(guardO ((((!x19.2)&&(!x21.2))&&!((a1.FName==a2.FName)))) (Z87_q a0 a1.FName a2.FName) false fun x28=>some (((!x19.2)&&(!x21.2))&&(((a1.FName==a2.FName))||x28)))))
theorem Z89_qall:∀n:Nat,Z89_n n=Z89_qn n:=by
 intro n;induction n with
 | zero=>exact(by funext a0 a1 a2; first|rfl|(rw [Z89_n,Z89_qn]))
 | succ n ih =>
  funext a0 a1 a2
  refine Qs ?_;rw [Z89_n,Z89_qn];try rw [ih]
  refine Q.bindPO (Z50_eq _) fun x4 hx_x4=>?_;refine Q.condO ?_ ?_
  ·refine Q.bindPO (Z50_eq _) fun x7 hx_x7=>?_;refine Q.guardOO (Z51_eq _) fun x8=>?_;refine Q.guardOO (Z51_eq _) fun x9=>?_;refine Q.guardOO rfl fun x10=>?_;all_goals rfl
  refine Q.bindPO (Z50_eq _) fun x13 hx_x13=>?_;refine Q.condO ?_ ?_
  ·refine Q.bindO (Z51_eq _) fun x16=>?_;refine Q.bindO rfl fun x17=>?_;all_goals rfl
  refine Q.bindO (Z48_eq _) fun x19=>?_;refine Q.bindO (Z48_eq _) fun x21=>?_;refine Q.condO ?_ ?_
  ·refine Q.bindO rfl fun x26=>?_;all_goals rfl
  refine Q.guardOO (Z87_eq _ _ _) fun x28=>?_;all_goals rfl
def Z89_q (a0:TDoc) (a1:TRef) (a2:TRef):Option Bool:=Z89_qn F0 a0 a1 a2
theorem Z89_eq (a0:TDoc) (a1:TRef) (a2:TRef):Z89 a0 a1 a2=Z89_q a0 a1 a2:=by
 unfold Z89 Z89_q; rw [(Z89_qall F0)]
def Z90_q43 (x4:Bs) (x6:(Z4×Bool)):List Z5->(Sl Z3)->Option ((Sl Z3))
 | [],s10_44=>some s10_44
 | h43::r43,s10_44=>on (h43) fun x53=>on (Z70_q x6.1.FArgs x53.FName) fun x54=>on (bif !(!x54.2) then h43 else Z5.zero) fun x56=>guardO (!(!x54.2)) (Z53_q x54.1.FType x56.FType) false fun x57=>Option.bind (bif ((!x54.2)||(!x57)) then((catC x4 ([40]:Bs)).bind fun x59=>on (h43) fun x60=>(catC x59 x60.FName).bind fun x61=>(catC x61 ([41]:Bs)).bind fun x62=>(appC 24 s10_44 (⟨false,[(Z3.mk (22:Int) x62)]⟩:Sl Z3)).bind fun x63=>some x63) else(some s10_44)) fun s10_51=>Z90_q43 x4 x6 (r43) s10_51
theorem Z90_l43_qe {a2:Z4}{x4:Bs}{x6:(Z4×Bool)}  (Kb43:((Sl Z3))->Option (Sl Z3)) (hend:∀(n43:Nat) (s10_44:(Sl Z3)) (s11_45:Nat),Z90_j14 a2 x4 x6  s10_44=Kb43 s10_44):∀(n43:Nat) (s10_44:(Sl Z3)) (s11_45:Nat),(0<n43/\a2.FArgs.l.length<s11_45+n43)->Z90_l43 a2 x4 x6 n43 s10_44 s11_45=Option.bind (Z90_q43 x4 x6 (a2.FArgs.l.drop s11_45) s10_44) Kb43:=by
 intro n43;induction n43 with
 | zero=>intro s10_44 s11_45 hn; exact absurd hn.1 (by omega)
 | succ n43 ih43 =>
  intro s10_44 s11_45 hn;rw [Z90_l43];by_cases hlt:s11_45<a2.FArgs.l.length
  ·obtain⟨h43,hh43⟩:=Qa hlt;rw [Q.drop_of hh43,Z90_q43];refine QT hlt ?_;refine Q.bindPO hh43 fun x53 hx_x53=>?_;refine Q.bindPO (Z70_eq _ _) fun x54 hx_x54=>?_;refine Q.guardPO hh43 fun x56 hx_x56=>?_;refine Q.guardOO (Z53_eq _ _) fun x57=>?_;refine Q.wrapOO fun Kj50 hKj50=>?_;have hj50:∀(s10_51:(Sl Z3)),Z90_j50 s11_45 (Z90_l43 a2 x4 x6 n43) s10_51=Kj50 s10_51:=by
    intro s10_51;refine Qe (hKj50 _) ?_;unfold Z90_j50;all_goals exact ih43 _ _ ⟨by omega,by omega⟩
   refine Q.condO ?_ ?_
   ·refine Q.bindO rfl fun x59=>?_;refine Q.bindPO hh43 fun x60 hx_x60=>?_;refine Q.bindO rfl fun x61=>?_;refine Q.bindO rfl fun x62=>?_;refine Q.bindO rfl fun x63=>?_;all_goals exact hj50 _
   all_goals exact hj50 _
  rw [dL (by omega),Z90_q43];refine QF hlt ?_;exact hend n43 s10_44 s11_45
def Z90_q20 (a2:Z4) (x4:Bs):List Z5->(Sl Z3)->Option ((Sl Z3))
 | [],s10_21=>some s10_21
 | h20::r20,s10_21=>on (h20) fun x30=>on (Z70_q a2.FArgs x30.FName) fun x31=>on (bif (!x31.2) then h20 else Z5.zero) fun x33=>on (bif (!x31.2) then Z50_q x33.FType else false) fun x34=>on (bif ((!x31.2)&&x34) then h20 else Z5.zero) fun x35=>Option.bind (bif (((!x31.2)&&x34)&&(!x35.FHas)) then((catC x4 ([40]:Bs)).bind fun x37=>on (h20) fun x38=>(catC x37 x38.FName).bind fun x39=>(catC x39 ([41]:Bs)).bind fun x40=>(appC 24 s10_21 (⟨false,[(Z3.mk (22:Int) x40)]⟩:Sl Z3)).bind fun x41=>some x41) else(some s10_21)) fun s10_28=>Z90_q20 a2 x4 (r20) s10_28
theorem Z90_l20_qe {a2:Z4}{x4:Bs}{x6:(Z4×Bool)}  (Kb20:((Sl Z3))->Option (Sl Z3)) (hend:∀(n20:Nat) (s10_21:(Sl Z3)) (s14_22:Nat),Z90_j16   s10_21=Kb20 s10_21):∀(n20:Nat) (s10_21:(Sl Z3)) (s14_22:Nat),(0<n20/\x6.1.FArgs.l.length<s14_22+n20)->Z90_l20 a2 x4 x6 n20 s10_21 s14_22=Option.bind (Z90_q20 a2 x4 (x6.1.FArgs.l.drop s14_22) s10_21) Kb20:=by
 intro n20;induction n20 with
 | zero=>intro s10_21 s14_22 hn; exact absurd hn.1 (by omega)
 | succ n20 ih20 =>
  intro s10_21 s14_22 hn;rw [Z90_l20];by_cases hlt:s14_22<x6.1.FArgs.l.length
  ·obtain⟨h20,hh20⟩:=Qa hlt;rw [Q.drop_of hh20,Z90_q20];refine QT hlt ?_;refine Q.bindPO hh20 fun x30 hx_x30=>?_;refine Q.bindPO (Z70_eq _ _) fun x31 hx_x31=>?_;refine Q.guardPO hh20 fun x33 hx_x33=>?_;refine Q.guardPO (Z50_eq _) fun x34 hx_x34=>?_;refine Q.guardPO hh20 fun x35 hx_x35=>?_;refine Q.wrapOO fun Kj27 hKj27=>?_;have hj27:∀(s10_28:(Sl Z3)),Z90_j27 s14_22 (Z90_l20 a2 x4 x6 n20) s10_28=Kj27 s10_28:=by
    intro s10_28;refine Qe (hKj27 _) ?_;unfold Z90_j27;all_goals exact ih20 _ _ ⟨by omega,by omega⟩
   refine Q.condO ?_ ?_
   ·refine Q.bindO rfl fun x37=>?_;refine Q.bindPO hh20 fun x38 hx_x38=>?_;refine Q.bindO rfl fun x39=>?_;refine Q.bindO rfl fun x40=>?_;refine Q.bindO rfl fun x41=>?_;all_goals exact hj27 _
   all_goals exact hj27 _
  rw [dL (by omega),Z90_q20];refine QF hlt ?_;exact hend n20 s10_21 s14_22
def Z90_q (a0:TDoc) (a1:TDef) (a2:Z4):Option (Sl Z3):=(catC a1.FName ([46]:Bs)).bind fun x3=>(catC x3 a2.FName).bind fun x4=>on (Z68_q a1 a2.FName) fun x6=>bif (!x6.2) then(some (⟨false,[(Z3.mk (20:Int) x4)]⟩:Sl Z3)) else((Z89_q a0 x6.1.FType a2.FType).bind fun x65=>Option.bind (bif (!x65) then((appC 24 (Sl.nil:Sl Z3) (⟨false,[(Z3.mk (10:Int) x4)]⟩:Sl Z3)).bind fun x67=>some x67) else(some (Sl.nil:Sl Z3))) fun s10_13=>Option.bind (Z90_q43 x4 x6 a2.FArgs.l s10_13) fun s10_44=>on (s10_44) fun s10_15=>Option.bind (Z90_q20 a2 x4 x6.1.FArgs.l s10_15) fun s10_21=>on (s10_21) fun s10_17=>some s10_17)
theorem Z90_eq (a0:TDoc) (a1:TDef) (a2:Z4):Z90 a0 a1 a2=Z90_q a0 a1 a2:=by
 unfold Z90 Z90_q;refine Qs ?_;refine Q.bindO rfl fun x3=>?_;refine Q.bindO rfl fun x4=>?_;refine Q.bindPO (Z68_eq _ _) fun x6 hx_x6=>?_;refine Q.condO ?_ ?_
 ·all_goals rfl
 refine Q.bindO (Z89_eq _ _ _) fun x65=>?_;refine Q.wrapOO fun Kj12 hKj12=>?_;have hj12:∀(s10_13:(Sl Z3)),Z90_j12 a2 x4 x6 s10_13=Kj12 s10_13:=by
  intro s10_13;refine Qe (hKj12 _) ?_;unfold Z90_j12;refine Q.wrapOO fun Kb43 hKb43=>?_;refine Z90_l43_qe  Kb43 ?_ _ _ _ ⟨Nat.succ_pos _,by omega⟩;intro n43 s10_44 s11_45;refine Qe (hKb43 _) ?_;refine Q.wrapPO fun Kj14 hKj14=>?_;have hj14:∀(s10_15:(Sl Z3)),Z90_j14 a2 x4 x6 s10_15=Kj14 s10_15:=by
   intro s10_15;refine Qe (hKj14 _) ?_;unfold Z90_j14;refine Q.wrapOO fun Kb20 hKb20=>?_;refine Z90_l20_qe  Kb20 ?_ _ _ _ ⟨Nat.succ_pos _,by omega⟩;intro n20 s10_21 s14_22;refine Qe (hKb20 _) ?_;refine Q.wrapPO fun Kj16 hKj16=>?_;have hj16:∀(s10_17:(Sl Z3)),Z90_j16  s10_17=Kj16 s10_17:=by
    intro s10_17;refine Qe (hKj16 _) ?_;unfold Z90_j16;all_goals rfl
   all_goals exact hj16 _
  all_goals exact hj14 _
 refine Q.condO ?_ ?_
 ·refine Q.bindO rfl fun x67=>?_;all_goals exact hj12 _
 all_goals exact hj12 _
def Z95_q30 (a0:TDoc) (a1:TDef):List Z4->(Sl Z3)->Option ((Sl Z3))
 | [],s5_31=>some s5_31
 | h30::r30,s5_31=>on (h30) fun x38=>(Z90_q a0 a1 x38).bind fun x39=>(appC 24 s5_31 x39).bind fun x40=>Z95_q30 a0 a1 (r30) x40
theorem Z95_l30_qe {a0:TDoc}{a1:TDef}{s6_9:Nat}{x28:(TDef×Bool)}{k_next_7:(Sl Z3)->Nat->Option (Sl Z3)}  (Kb30:((Sl Z3))->Option (Sl Z3)) (hend:∀(n30:Nat) (s5_31:(Sl Z3)) (s10_32:Nat),Z95_j14 s6_9 k_next_7 s5_31=Kb30 s5_31):∀(n30:Nat) (s5_31:(Sl Z3)) (s10_32:Nat),(0<n30/\x28.1.FFields.l.length<s10_32+n30)->Z95_l30 a0 a1 s6_9 x28 k_next_7 n30 s5_31 s10_32=Option.bind (Z95_q30 a0 a1 (x28.1.FFields.l.drop s10_32) s5_31) Kb30:=by
 intro n30;induction n30 with
 | zero=>intro s5_31 s10_32 hn; exact absurd hn.1 (by omega)
 | succ n30 ih30 =>
  intro s5_31 s10_32 hn;rw [Z95_l30];by_cases hlt:s10_32<x28.1.FFields.l.length
  ·obtain⟨h30,hh30⟩:=Qa hlt;rw [Q.drop_of hh30,Z95_q30];refine QT hlt ?_;refine Q.bindPO hh30 fun x38 hx_x38=>?_;refine Q.bindO (Z90_eq _ _ _) fun x39=>?_;refine Q.bindO rfl fun x40=>?_;all_goals exact ih30 _ _ ⟨by omega,by omega⟩
  rw [dL (by omega),Z95_q30];refine QF hlt ?_;exact hend n30 s5_31 s10_32
def Z95_q7 (a0:TDoc) (a1:TDef):List Bs->Nat->(Sl Z3)->Option ((Sl Z3))
 | [],s6_9,s5_8=>some s5_8
 | h7::r7,s6_9,s5_8=>on (h7) fun x17=>on (Z93_q a0 x17 (2:Int)) fun x18=>on (bif (decide (x18=(0:Int))) then(⟨a1.FImplements.nl,a1.FImplements.l.take s6_9⟩:Sl Bs) else(Sl.nil:Sl Bs)) fun x42=>on (bif (decide (x18=(0:Int))) then h7 else([]:Bs)) fun x43=>on (bif (decide (x18=(0:Int))) then Z92_q x42 x43 else false) fun x44=>on (bif ((decide (x18=(0:Int)))&&x44) then((7:Int)) else(x18)) fun s7_20=>Option.bind (bif (!decide (s7_20=(0:Int))) then((appC 24 s5_8 (⟨false,[(Z3.mk s7_20 a1.FName)]⟩:Sl Z3)).bind fun x25=>some x25) else(on (h7) fun x27=>on (Z69_q a0 x27) fun x28=>Option.bind (Z95_q30 a0 a1 x28.1.FFields.l s5_8) fun s5_31=>some s5_31)) fun s5_15=>Z95_q7 a0 a1 (r7) (s6_9+1) s5_15
theorem Z95_l7_qe {a0:TDoc}{a1:TDef}  (Kb7:((Sl Z3))->Option (Sl Z3)) (hend:∀(n7:Nat) (s5_8:(Sl Z3)) (s6_9:Nat),Z95_j3   s5_8=Kb7 s5_8):∀(n7:Nat) (s5_8:(Sl Z3)) (s6_9:Nat),(0<n7/\a1.FImplements.l.length<s6_9+n7)->Z95_l7 a0 a1 n7 s5_8 s6_9=Option.bind (Z95_q7 a0 a1 (a1.FImplements.l.drop s6_9) s6_9 s5_8) Kb7:=by
 intro n7;induction n7 with
 | zero=>intro s5_8 s6_9 hn; exact absurd hn.1 (by omega)
 | succ n7 ih7 =>
  intro s5_8 s6_9 hn;rw [Z95_l7];by_cases hlt:s6_9<a1.FImplements.l.length
  ·obtain⟨h7,hh7⟩:=Qa hlt;rw [Q.drop_of hh7,Z95_q7];refine QT hlt ?_;refine Q.bindPO hh7 fun x17 hx_x17=>?_;refine Q.bindPO (Z93_eq _ _ _) fun x18 hx_x18=>?_;refine Q.guardPO (Q.partC_take (by omega)) fun x42 hx_x42=>?_;refine Q.guardPO hh7 fun x43 hx_x43=>?_;refine Q.guardPO (Z92_eq _ _) fun x44 hx_x44=>?_;refine Q.wrapPO fun Kj19 hKj19=>?_;have hj19:∀(s7_20:Int),Z95_j19 a0 a1 s5_8 s6_9 (Z95_l7 a0 a1 n7) s7_20=Kj19 s7_20:=by
    intro s7_20;refine Qe (hKj19 _) ?_;unfold Z95_j19;refine Q.wrapOO fun Kj14 hKj14=>?_;have hj14:∀(s5_15:(Sl Z3)),Z95_j14 s6_9 (Z95_l7 a0 a1 n7) s5_15=Kj14 s5_15:=by
     intro s5_15;refine Qe (hKj14 _) ?_;unfold Z95_j14;all_goals exact ih7 _ _ ⟨by omega,by omega⟩
    refine Q.condO ?_ ?_
    ·refine Q.bindO rfl fun x25=>?_;all_goals exact hj14 _
    refine Q.bindPO hh7 fun x27 hx_x27=>?_;refine Q.bindPO (Z69_eq _ _) fun x28 hx_x28=>?_;refine Q.wrapOO fun Kb30 hKb30=>?_;refine Z95_l30_qe  Kb30 ?_ _ _ _ ⟨Nat.succ_pos _,by omega⟩;intro n30 s5_31 s10_32;refine Qe (hKb30 _) ?_;all_goals exact hj14 _
   refine Q.condP ?_ ?_
   ·all_goals exact hj19 _
   all_goals exact hj19 _
  rw [dL (by omega),Z95_q7];refine QF hlt ?_;exact hend n7 s5_8 s6_9
def Z95_q (a0:TDoc) (a1:TDef):Option (Sl Z3):=Option.bind (Z95_q7 a0 a1 a1.FImplements.l 0 (Sl.nil:Sl Z3)) fun s5_8=>on (s5_8) fun s5_4=>some s5_4
theorem Z95_eq (a0:TDoc) (a1:TDef):Z95 a0 a1=Z95_q a0 a1:=by
 unfold Z95 Z95_q;refine Qs ?_;refine Q.wrapOO fun Kb7 hKb7=>?_;refine Z95_l7_qe  Kb7 ?_ _ _ _ ⟨Nat.succ_pos _,by omega⟩;intro n7 s5_8 s6_9;refine Qe (hKb7 _) ?_;refine Q.wrapPO fun Kj3 hKj3=>?_;have hj3:∀(s5_4:(Sl Z3)),Z95_j3  s5_4=Kj3 s5_4:=by
  intro s5_4;refine Qe (hKj3 _) ?_;unfold Z95_j3;all_goals rfl
 all_goals exact hj3 _
def Z96_q7 (a0:TDoc) (a1:TDef):List Z6->Nat->(Sl Z3)->Option ((Sl Z3))
 | [],s6_9,s5_8=>some s5_8
 | h7::r7,s6_9,s5_8=>on (h7) fun x17=>on (Z93_q a0 x17.FName (1:Int)) fun x19=>on (bif (decide (x19=(0:Int))) then(⟨a1.FMembers.nl,a1.FMembers.l.take s6_9⟩:Sl Z6) else(Sl.nil:Sl Z6)) fun x28=>on (bif (decide (x19=(0:Int))) then Z94_q (TDef.mk (0:Int) ([]:Bs) (Sl.nil:Sl Bs) (Sl.nil:Sl TDir) (Sl.nil:Sl Z4) x28 (Sl.nil:Sl Z5)) x17.FName else false) fun x29=>on (bif ((decide (x19=(0:Int)))&&x29) then((7:Int)) else(x19)) fun s8_21=>Option.bind (bif (!decide (s8_21=(0:Int))) then((catC a1.FName ([46]:Bs)).bind fun x24=>(catC x24 x17.FName).bind fun x25=>(appC 24 s5_8 (⟨false,[(Z3.mk s8_21 x25)]⟩:Sl Z3)).bind fun x26=>some x26) else(some s5_8)) fun s5_15=>Z96_q7 a0 a1 (r7) (s6_9+1) s5_15
theorem Z96_l7_qe {a0:TDoc}{a1:TDef}  (Kb7:((Sl Z3))->Option (Sl Z3)) (hend:∀(n7:Nat) (s5_8:(Sl Z3)) (s6_9:Nat),Z96_j3   s5_8=Kb7 s5_8):∀(n7:Nat) (s5_8:(Sl Z3)) (s6_9:Nat),(0<n7/\a1.FMembers.l.length<s6_9+n7)->Z96_l7 a0 a1 n7 s5_8 s6_9=Option.bind (Z96_q7 a0 a1 (a1.FMembers.l.drop s6_9) s6_9 s5_8) Kb7:=by
 intro n7;induction n7 with
 | zero=>intro s5_8 s6_9 hn; exact absurd hn.1 (by omega)
 | succ n7 ih7 =>
  intro s5_8 s6_9 hn;rw [Z96_l7];by_cases hlt:s6_9<a1.FMembers.l.length
  ·obtain⟨h7,hh7⟩:=Qa hlt;rw [Q.drop_of hh7,Z96_q7];refine QT hlt ?_;refine Q.bindPO hh7 fun x17 hx_x17=>?_;refine Q.bindPO (Z93_eq _ _ _) fun x19 hx_x19=>?_;refine Q.guardPO (Q.partC_take (by omega)) fun x28 hx_x28=>?_;refine Q.guardPO (Z94_eq _ _) fun x29 hx_x29=>?_;refine Q.wrapPO fun Kj20 hKj20=>?_;have hj20:∀(s8_21:Int),Z96_j20 a1 s5_8 s6_9 x17 (Z96_l7 a0 a1 n7) s8_21=Kj20 s8_21:=by
    intro s8_21;refine Qe (hKj20 _) ?_;unfold Z96_j20;refine Q.wrapOO fun Kj14 hKj14=>?_;have hj14:∀(s5_15:(Sl Z3)),Z96_j14 s6_9 (Z96_l7 a0 a1 n7) s5_15=Kj14 s5_15:=by
     intro s5_15;refine Qe (hKj14 _) ?_;unfold Z96_j14;all_goals exact ih7 _ _ ⟨by omega,by omega⟩
    refine Q.condO ?_ ?_
    ·refine Q.bindO rfl fun x24=>?_;refine Q.bindO rfl fun x25=>?_;refine Q.bindO rfl fun x26=>?_;all_goals exact hj14 _
    all_goals exact hj14 _
   refine Q.condP ?_ ?_
   ·all_goals exact hj20 _
   all_goals exact hj20 _
  rw [dL (by omega),Z96_q7];refine QF hlt ?_;exact hend n7 s5_8 s6_9
def Z96_q (a0:TDoc) (a1:TDef):Option (Sl Z3):=Option.bind (Z96_q7 a0 a1 a1.FMembers.l 0 (Sl.nil:Sl Z3)) fun s5_8=>on (s5_8) fun s5_4=>some s5_4
theorem Z96_eq (a0:TDoc) (a1:TDef):Z96 a0 a1=Z96_q a0 a1:=by
 unfold Z96 Z96_q;refine Qs ?_;refine Q.wrapOO fun Kb7 hKb7=>?_;refine Z96_l7_qe  Kb7 ?_ _ _ _ ⟨Nat.succ_pos _,by omega⟩;intro n7 s5_8 s6_9;refine Qe (hKb7 _) ?_;refine Q.wrapPO fun Kj3 hKj3=>?_;have hj3:∀(s5_4:(Sl Z3)),Z96_j3  s5_4=Kj3 s5_4:=by
  intro s5_4;refine Qe (hKj3 _) ?_;unfold Z96_j3;all_goals rfl
 all_goals exact hj3 _
def Z86_q7 (a0:TDoc):List TDef->(Sl Z3)->Option ((Sl Z3))
 | [],s3_8=>some s3_8
 | h7::r7,s3_8=>on (h7) fun x17=>Option.bind (bif (decide (x17.FKind=(1:Int))) then(on (h7) fun x20=>(Z95_q a0 x20).bind fun x21=>(appC 24 s3_8 x21).bind fun x22=>some x22) else(bif (decide (x17.FKind=(3:Int))) then(on (h7) fun x25=>(Z96_q a0 x25).bind fun x26=>(appC 24 s3_8 x26).bind fun x27=>some x27) else(some s3_8))) fun s3_15=>Z86_q7 a0 (r7) s3_15
theorem Z86_l7_qe {a0:TDoc}  (Kb7:((Sl Z3))->Option (Sl Z3)) (hend:∀(n7:Nat) (s3_8:(Sl Z3)) (s4_9:Nat),Z86_j3   s3_8=Kb7 s3_8):∀(n7:Nat) (s3_8:(Sl Z3)) (s4_9:Nat),(0<n7/\a0.FDefs.l.length<s4_9+n7)->Z86_l7 a0 n7 s3_8 s4_9=Option.bind (Z86_q7 a0 (a0.FDefs.l.drop s4_9) s3_8) Kb7:=by
 intro n7;induction n7 with
 | zero=>intro s3_8 s4_9 hn; exact absurd hn.1 (by omega)
 | succ n7 ih7 =>
  intro s3_8 s4_9 hn;rw [Z86_l7];by_cases hlt:s4_9<a0.FDefs.l.length
  ·obtain⟨h7,hh7⟩:=Qa hlt;rw [Q.drop_of hh7,Z86_q7];refine QT hlt ?_;refine Q.bindPO hh7 fun x17 hx_x17=>?_;refine Q.wrapOO fun Kj14 hKj14=>?_;have hj14:∀(s3_15:(Sl Z3)),Z86_j14 s4_9 (Z86_l7 a0 n7) s3_15=Kj14 s3_15:=by
    intro s3_15;refine Qe (hKj14 _) ?_;unfold Z86_j14;all_goals exact ih7 _ _ ⟨by omega,by omega⟩
   refine Q.condO ?_ ?_
   ·refine Q.bindPO hh7 fun x20 hx_x20=>?_;refine Q.bindO (Z95_eq _ _) fun x21=>?_;refine Q.bindO rfl fun x22=>?_;all_goals exact hj14 _
   refine Q.condO ?_ ?_
   ·refine Q.bindPO hh7 fun x25 hx_x25=>?_;refine Q.bindO (Z96_eq _ _) fun x26=>?_;refine Q.bindO rfl fun x27=>?_;all_goals exact hj14 _
   all_goals exact hj14 _
  rw [dL (by omega),Z86_q7];refine QF hlt ?_;exact hend n7 s3_8 s4_9
def Z86_q (a0:TDoc):Option (Sl Z3):=Option.bind (Z86_q7 a0 a0.FDefs.l (Sl.nil:Sl Z3)) fun s3_8=>on (s3_8) fun s3_4=>some s3_4
theorem Z86_eq (a0:TDoc):Z86 a0=Z86_q a0:=by
 unfold Z86 Z86_q;refine Qs ?_;refine Q.wrapOO fun Kb7 hKb7=>?_;refine Z86_l7_qe  Kb7 ?_ _ _ _ ⟨Nat.succ_pos _,by omega⟩;intro n7 s3_8 s4_9;refine Qe (hKb7 _) ?_;refine Q.wrapPO fun Kj3 hKj3=>?_;have hj3:∀(s3_4:(Sl Z3)),Z86_j3  s3_4=Kj3 s3_4:=by
  intro s3_4;refine Qe (hKj3 _) ?_;unfold Z86_j3;all_goals rfl
 all_goals exact hj3 _
def Z32_q (a0:TDoc):Option Bool:=(Z57_q a0 (600:Int)).bind fun x3=>guardO (((decide (x3<=(600:Int)))&&!(decide (((a0.FDefs.l.length:Nat):Int)=(0:Int))))) (Z56_q a0) false fun x4=>guardO (((decide (x3<=(600:Int)))&&((decide (((a0.FDefs.l.length:Nat):Int)=(0:Int)))||x4))) (Z67_q a0 false) (Sl.nil:Sl Z3) fun x5=>guardO ((((decide (x3<=(600:Int)))&&((decide (((a0.FDefs.l.length:Nat):Int)=(0:Int)))||x4))&&(decide (((x5.l.length:Nat):Int)=(0:Int))))) (Z86_q a0) (Sl.nil:Sl Z3) fun x6=>some ((((decide (x3<=(600:Int)))&&((decide (((a0.FDefs.l.length:Nat):Int)=(0:Int)))||x4))&&(decide (((x5.l.length:Nat):Int)=(0:Int))))&&(decide (((x6.l.length:Nat):Int)=(0:Int))))
theorem Z32_eq (a0:TDoc):Z32 a0=Z32_q a0:=by
 unfold Z32 Z32_q;refine Qs ?_;refine Q.bindO (Z57_eq _ _) fun x3=>?_;refine Q.guardOO (Z56_eq _) fun x4=>?_;refine Q.guardOO (Z67_eq _ _) fun x5=>?_;refine Q.guardOO (Z86_eq _) fun x6=>?_;all_goals rfl
def Z98_q7 (a1:Bs):List TDef->Unit ⊕ ((TDef×Bool))
 | []=>Sum.inl ()
 | h7::r7=>on (h7) fun x15=>bif ((x15.FName==a1)) then(Sum.inr (x15,true)) else(Z98_q7 a1 (r7) )
theorem Z98_l7_qe {a0:TDoc}{a1:Bs}  (Kb7:(Unit ⊕ ((TDef×Bool)))->Option (TDef×Bool)) (hend:∀(n7:Nat) (s11_8:Nat) (y9_l0:TDef),Z98_j2   y9_l0=Kb7 (Sum.inl ())) (hret:∀e:(TDef×Bool),some e=Kb7 (Sum.inr e)):∀(n7:Nat) (s11_8:Nat) (y9_l0:TDef),(0<n7/\a0.FDefs.l.length<s11_8+n7)->Z98_l7 a0 a1 n7 s11_8 y9_l0=Kb7 (Z98_q7 a1 (a0.FDefs.l.drop s11_8) ):=by
 intro n7;induction n7 with
 | zero=>intro s11_8 y9_l0 hn; exact absurd hn.1 (by omega)
 | succ n7 ih7 =>
  intro s11_8 y9_l0 hn;rw [Z98_l7];by_cases hlt:s11_8<a0.FDefs.l.length
  ·obtain⟨h7,hh7⟩:=Qa hlt;rw [Q.drop_of hh7,Z98_q7];refine QT hlt ?_;refine Q.bindP hh7 fun x15 hx_x15=>?_;refine Q.condP ?_ ?_
   ·all_goals exact hret _
   all_goals exact ih7 _ _ ⟨by omega,by omega⟩
  rw [dL (by omega),Z98_q7];refine QF hlt ?_;exact hend n7 s11_8 y9_l0
def Z98_q (a0:TDoc) (a1:Bs):(TDef×Bool):=on (Z98_q7 a1 a0.FDefs.l ) fun o7=>match o7 with|Sum.inl _=>(on (()) fun _=>((TDef.mk (0:Int) ([]:Bs) (Sl.nil:Sl Bs) (Sl.nil:Sl TDir) (Sl.nil:Sl Z4) (Sl.nil:Sl Z6) (Sl.nil:Sl Z5)),false))|Sum.inr e7=>(e7)
theorem Z98_eq (a0:TDoc) (a1:Bs):Z98 a0 a1=some (Z98_q a0 a1):=by
 unfold Z98 Z98_q;refine Q.wrapPP fun Kb7 hKb7=>?_;refine Z98_l7_qe  Kb7 ?_ ?_ _ _ _ ⟨Nat.succ_pos _,by omega⟩
 ·intro n7 s11_8 y9_l0;refine Qe (hKb7 _) ?_;try dsimp only
  refine Q.wrapPP fun Kj2 hKj2=>?_;have hj2:∀(y3_l0:TDef),Z98_j2  y3_l0=Kj2 ():=by
   intro y3_l0;refine Qe (hKj2 _) ?_;unfold Z98_j2;all_goals rfl
  all_goals exact hj2 _
 intro e7;refine Qe (hKb7 _) ?_;try dsimp only
 all_goals rfl
def Z13_q (a0:Z0) (a1:Int) (a2:Bs) (a3:Bs) (a4:Bs) (a5:Bs):Option Z0:=(appC 88 a0.Fout (⟨false,[(Z2.mk a1 a0.Fname a2 a3 a4 a5)]⟩:Sl Z2)).bind fun x1=>some (Z0.mk a0.Fname x1)
theorem Z13_eq (a0:Z0) (a1:Int) (a2:Bs) (a3:Bs) (a4:Bs) (a5:Bs):Z13 a0 a1 a2 a3 a4 a5=Z13_q a0 a1 a2 a3 a4 a5:=by
 unfold Z13 Z13_q;refine Qs ?_;refine Q.bindO rfl fun x1=>?_;all_goals rfl
def Z20_q (a0:Int):Bs:=bif (decide (a0=(1:Int))) then(([116,121,112,101]:Bs)) else(bif (decide (a0=(2:Int))) then(([105,110,116,101,114,102,97,99,101]:Bs)) else(bif (decide (a0=(3:Int))) then(([117,110,105,111,110]:Bs)) else(bif (decide (a0=(4:Int))) then(([101,110,117,109]:Bs)) else(([105,110,112,117,116]:Bs)))))
theorem Z20_eq (a0:Int):Z20 a0=some (Z20_q a0):=by
 unfold Z20 Z20_q;refine Q.condP ?_ ?_
 ·all_goals rfl
 refine Q.condP ?_ ?_
 ·all_goals rfl
 refine Q.condP ?_ ?_
 ·all_goals rfl
 refine Q.condP ?_ ?_
 ·all_goals rfl
 all_goals rfl
def Z97_q7 (a1:Bs):List Z4->Unit ⊕ ((Z4×Bool))
 | []=>Sum.inl ()
 | h7::r7=>on (h7) fun x15=>bif ((x15.FName==a1)) then(Sum.inr (x15,true)) else(Z97_q7 a1 (r7) )
theorem Z97_l7_qe {a0:TDef}{a1:Bs}  (Kb7:(Unit ⊕ ((Z4×Bool)))->Option (Z4×Bool)) (hend:∀(n7:Nat) (s11_8:Nat) (y9_l0:Z4),Z97_j2   y9_l0=Kb7 (Sum.inl ())) (hret:∀e:(Z4×Bool),some e=Kb7 (Sum.inr e)):∀(n7:Nat) (s11_8:Nat) (y9_l0:Z4),(0<n7/\a0.FFields.l.length<s11_8+n7)->Z97_l7 a0 a1 n7 s11_8 y9_l0=Kb7 (Z97_q7 a1 (a0.FFields.l.drop s11_8) ):=by
 intro n7;induction n7 with
 | zero=>intro s11_8 y9_l0 hn; exact absurd hn.1 (by omega)
 | succ n7 ih7 =>
  intro s11_8 y9_l0 hn;rw [Z97_l7];by_cases hlt:s11_8<a0.FFields.l.length
  ·obtain⟨h7,hh7⟩:=Qa hlt;rw [Q.drop_of hh7,Z97_q7];refine QT hlt ?_;refine Q.bindP hh7 fun x15 hx_x15=>?_;refine Q.condP ?_ ?_
   ·all_goals exact hret _
   all_goals exact ih7 _ _ ⟨by omega,by omega⟩
  rw [dL (by omega),Z97_q7];refine QF hlt ?_;exact hend n7 s11_8 y9_l0
def Z97_q (a0:TDef) (a1:Bs):(Z4×Bool):=on (Z97_q7 a1 a0.FFields.l ) fun o7=>match o7 with|Sum.inl _=>(on (()) fun _=>((Z4.mk ([]:Bs) (Sl.nil:Sl Z5) TRef.zero (Sl.nil:Sl TDir)),false))|Sum.inr e7=>(e7)
theorem Z97_eq (a0:TDef) (a1:Bs):Z97 a0 a1=some (Z97_q a0 a1):=by
 unfold Z97 Z97_q;refine Q.wrapPP fun Kb7 hKb7=>?_;refine Z97_l7_qe  Kb7 ?_ ?_ _ _ _ ⟨Nat.succ_pos _,by omega⟩
 ·intro n7 s11_8 y9_l0;refine Qe (hKb7 _) ?_;try dsimp only
  refine Q.wrapPP fun Kj2 hKj2=>?_;have hj2:∀(y3_l0:Z4),Z97_j2  y3_l0=Kj2 ():=by
   intro y3_l0;refine Qe (hKj2 _) ?_;unfold Z97_j2;all_goals rfl
  all_goals exact hj2 _
 intro e7;refine Qe (hKb7 _) ?_;try dsimp only
 all_goals rfl
def Z106_q12 (a1:(Sl Int)):List Int->Nat->Option (Unit ⊕ Bool)
 | [],s13_13=>some (Sum.inl ())
 | h12::r12,s13_13=>on (h12) fun x20=>(a1.l[s13_13]?).bind fun x21=>bif (!decide (x20=x21)) then(some (Sum.inr false)) else(Z106_q12 a1 (r12) (s13_13+1) )
theorem Z106_l12_qe {a0:(Sl Int)}{a1:(Sl Int)}  (Kb12:(Unit ⊕ Bool)->Option Bool) (hend:∀(n12:Nat) (s13_13:Nat),Z106_j8   =Kb12 (Sum.inl ())) (hret:∀e:Bool,some e=Kb12 (Sum.inr e)):∀(n12:Nat) (s13_13:Nat),(0<n12/\a0.l.length<s13_13+n12)->Z106_l12 a0 a1 n12 s13_13=Option.bind (Z106_q12 a1 (a0.l.drop s13_13) s13_13 ) Kb12:=by
 intro n12;induction n12 with
 | zero=>intro s13_13 hn; exact absurd hn.1 (by omega)
 | succ n12 ih12 =>
  intro s13_13 hn;rw [Z106_l12];by_cases hlt:s13_13<a0.l.length
  ·obtain⟨h12,hh12⟩:=Qa hlt;rw [Q.drop_of hh12,Z106_q12];refine QT hlt ?_;refine Q.bindPO hh12 fun x20 hx_x20=>?_;refine Q.bindO rfl fun x21=>?_;refine Q.condO ?_ ?_
   ·all_goals exact hret _
   all_goals exact ih12 _ ⟨by omega,by omega⟩
  rw [dL (by omega),Z106_q12];refine QF hlt ?_;exact hend n12 s13_13
def Z106_q (a0:(Sl Int)) (a1:(Sl Int)):Option Bool:=bif (!decide (((a0.l.length:Nat):Int)=((a1.l.length:Nat):Int))) then(some false) else(Option.bind (Z106_q12 a1 a0.l 0 ) fun o12=>match o12 with|Sum.inl _=>(on (()) fun _=>some true)|Sum.inr e12=>(some e12))
theorem Z106_eq (a0:(Sl Int)) (a1:(Sl Int)):Z106 a0 a1=Z106_q a0 a1:=by
 unfold Z106 Z106_q;refine Qs ?_;refine Q.condO ?_ ?_
 ·all_goals rfl
 refine Q.wrapOO fun Kb12 hKb12=>?_;refine Z106_l12_qe  Kb12 ?_ ?_ _ _ ⟨Nat.succ_pos _,by omega⟩
 ·intro n12 s13_13;refine Qe (hKb12 _) ?_;try dsimp only
  refine Q.wrapPO fun Kj8 hKj8=>?_;have hj8:Z106_j8  =Kj8 ():=by
   refine Qe (hKj8 _) ?_;unfold Z106_j8;all_goals rfl
  all_goals exact hj8
 intro e12;refine Qe (hKb12 _) ?_;try dsimp only
 all_goals rfl
def Z139_q (a0:TRef) (a1:TRef):Option Bool:=guardO (((a0.FName==a1.FName))) (Z106_q a0.FWraps a1.FWraps) false fun x3=>some (((a0.FName==a1.FName))&&x3)
theorem Z139_eq (a0:TRef) (a1:TRef):Z139 a0 a1=Z139_q a0 a1:=by
 unfold Z139 Z139_q;refine Qs ?_;refine Q.guardOO (Z106_eq _ _) fun x3=>?_;all_goals rfl
def Z99_q7 (a1:Bs):List Z5->Unit ⊕ ((Z5×Bool))
 | []=>Sum.inl ()
 | h7::r7=>on (h7) fun x15=>bif ((x15.FName==a1)) then(Sum.inr (x15,true)) else(Z99_q7 a1 (r7) )
theorem Z99_l7_qe {a0:(Sl Z5)}{a1:Bs}  (Kb7:(Unit ⊕ ((Z5×Bool)))->Option (Z5×Bool)) (hend:∀(n7:Nat) (s10_8:Nat) (y9_l0:Z5),Z99_j2   y9_l0=Kb7 (Sum.inl ())) (hret:∀e:(Z5×Bool),some e=Kb7 (Sum.inr e)):∀(n7:Nat) (s10_8:Nat) (y9_l0:Z5),(0<n7/\a0.l.length<s10_8+n7)->Z99_l7 a0 a1 n7 s10_8 y9_l0=Kb7 (Z99_q7 a1 (a0.l.drop s10_8) ):=by
 intro n7;induction n7 with
 | zero=>intro s10_8 y9_l0 hn; exact absurd hn.1 (by omega)
 | succ n7 ih7 =>
  intro s10_8 y9_l0 hn;rw [Z99_l7];by_cases hlt:s10_8<a0.l.length
  ·obtain⟨h7,hh7⟩:=Qa hlt;rw [Q.drop_of hh7,Z99_q7];refine QT hlt ?_;refine Q.bindP hh7 fun x15 hx_x15=>?_;refine Q.condP ?_ ?_
   ·all_goals exact hret _
   all_goals exact ih7 _ _ ⟨by omega,by omega⟩
  rw [dL (by omega),Z99_q7];refine QF hlt ?_;exact hend n7 s10_8 y9_l0
def Z99_q (a0:(Sl Z5)) (a1:Bs):(Z5×Bool):=on (Z99_q7 a1 a0.l ) fun o7=>match o7 with|Sum.inl _=>(on (()) fun _=>((Z5.mk ([]:Bs) TRef.zero false Z7.zero (Sl.nil:Sl TDir)),false))|Sum.inr e7=>(e7)
theorem Z99_eq (a0:(Sl Z5)) (a1:Bs):Z99 a0 a1=some (Z99_q a0 a1):=by
 unfold Z99 Z99_q;refine Q.wrapPP fun Kb7 hKb7=>?_;refine Z99_l7_qe  Kb7 ?_ ?_ _ _ _ ⟨Nat.succ_pos _,by omega⟩
 ·intro n7 s10_8 y9_l0;refine Qe (hKb7 _) ?_;try dsimp only
  refine Q.wrapPP fun Kj2 hKj2=>?_;have hj2:∀(y3_l0:Z5),Z99_j2  y3_l0=Kj2 ():=by
   intro y3_l0;refine Qe (hKj2 _) ?_;unfold Z99_j2;all_goals rfl
  all_goals exact hj2 _
 intro e7;refine Qe (hKb7 _) ?_;try dsimp only
 all_goals rfl
def Z111_q (a0:Strings_Builder) (a1:Int):Option (Unit×Strings_Builder):=(Z113_q a0).bind fun x3=>(appC 1 x3.Fbuf (⟨false,[a1]⟩:Sl Int)).bind fun x5=>some ((),(Strings_Builder.mk x3.Faddr x5))
theorem Z111_eq (a0:Strings_Builder) (a1:Int):Z111 a0 a1=Z111_q a0 a1:=by
 unfold Z111 Z111_q;refine Qs ?_;refine Q.bindO (Z113_eq _) fun x3=>?_;refine Q.bindO rfl fun x5=>?_;all_goals rfl
def Z138_q (a0:TRef):Option Bs:=Z138 a0
theorem Z138_eq (a0:TRef):Z138 a0=Z138_q a0:=rfl
def Z122_q (a0:Int):Option Bs:=(Z109_q a0).bind fun x3=>some x3
theorem Z122_eq (a0:Int):Z122 a0=Z122_q a0:=by
 unfold Z122 Z122_q;refine Qs ?_;refine Q.bindO (Z109_eq _) fun x3=>?_;all_goals rfl
def Z112_q (a0:Strings_Builder) (a1:Bs):Option (Int×Unit×Strings_Builder):=(Z113_q a0).bind fun x3=>(appC 1 x3.Fbuf (strSl a1)).bind fun x5=>some (((a1.length:Nat):Int),(),(Strings_Builder.mk x3.Faddr x5))
theorem Z112_eq (a0:Strings_Builder) (a1:Bs):Z112 a0 a1=Z112_q a0 a1:=by
 unfold Z112 Z112_q;refine Qs ?_;refine Q.bindO (Z113_eq _) fun x3=>?_;refine Q.bindO rfl fun x5=>?_;all_goals rfl
def Z124_q15 :List UInt8->Strings_Builder->Option (Strings_Builder)
 | [],y17_id3_3=>some y17_id3_3
 | h15::r15,y17_id3_3=>on (h15) fun x25=>on (bif (decide (((x25.toNat:Nat):Int)=(34:Int))) then((decide (((x25.toNat:Nat):Int)=(34:Int)))) else((decide (((x25.toNat:Nat):Int)=(92:Int))))) fun s33_28=>Option.bind (bif s33_28 then((Z111_q y17_id3_3 (92:Int)).bind fun x31=>(Z111_q x31.2 ((x25.toNat:Nat):Int)).bind fun x32=>some x32.2) else(bif (decide (((x25.toNat:Nat):Int)=(10:Int))) then((Z112_q y17_id3_3 ([92,110]:Bs)).bind fun x35=>some x35.2.2) else(bif (decide (((x25.toNat:Nat):Int)=(13:Int))) then((Z112_q y17_id3_3 ([92,114]:Bs)).bind fun x38=>some x38.2.2) else(bif (decide (((x25.toNat:Nat):Int)=(9:Int))) then((Z112_q y17_id3_3 ([92,116]:Bs)).bind fun x41=>some x41.2.2) else(bif ((decide ((32:Int)<=((x25.toNat:Nat):Int)))&&(decide (((x25.toNat:Nat):Int)<=(126:Int)))) then((Z111_q y17_id3_3 ((x25.toNat:Nat):Int)).bind fun x46=>some x46.2) else((Z112_q y17_id3_3 ([92,117,48,48]:Bs)).bind fun x48=>(idxC ([48,49,50,51,52,53,54,55,56,57,97,98,99,100,101,102]:Bs) (Int.fdiv ((x25.toNat:Nat):Int) (2 ^ (min (Int.toNat 4) (IntKind.bits .u8))))).bind fun x50=>(Z111_q x48.2.2 ((x50.toNat:Nat):Int)).bind fun x51=>(idxC ([48,49,50,51,52,53,54,55,56,57,97,98,99,100,101,102]:Bs) (IntKind.wrap .u8 ((BitVec.ofInt (IntKind.bits .u8) ((x25.toNat:Nat):Int) &&& BitVec.ofInt (IntKind.bits .u8) (15:Int)).toNat:Int))).bind fun x52=>(Z111_q x51.2 ((x52.toNat:Nat):Int)).bind fun x53=>some x53.2)))))) fun y22_id3_3=>Z124_q15  (r15) y22_id3_3
theorem Z124_l15_qe {a0:Bs}  (Kb15:(Strings_Builder)->Option Bs) (hend:∀(n15:Nat) (s9_16:Nat) (y17_id3_3:Strings_Builder),Z124_j7   y17_id3_3=Kb15 y17_id3_3):∀(n15:Nat) (s9_16:Nat) (y17_id3_3:Strings_Builder),(0<n15/\a0.length<s9_16+n15)->Z124_l15 a0 n15 s9_16 y17_id3_3=Option.bind (Z124_q15  (a0.drop s9_16) y17_id3_3) Kb15:=by
 intro n15;induction n15 with
 | zero=>intro s9_16 y17_id3_3 hn; exact absurd hn.1 (by omega)
 | succ n15 ih15 =>
  intro s9_16 y17_id3_3 hn;rw [Z124_l15];by_cases hlt:s9_16<a0.length
  ·obtain⟨h15,hh15⟩:=Qa hlt;rw [Q.drop_of hh15,Z124_q15];refine QT hlt ?_;refine Q.bindPO hh15 fun x25 hx_x25=>?_;refine Q.wrapPO fun Kj27 hKj27=>?_;have hj27:∀(s33_28:Bool),Z124_j27 s9_16 y17_id3_3 x25 (Z124_l15 a0 n15) s33_28=Kj27 s33_28:=by
    intro s33_28;refine Qe (hKj27 _) ?_;unfold Z124_j27;refine Q.wrapOO fun Kj21 hKj21=>?_;have hj21:∀(y22_id3_3:Strings_Builder),Z124_j21 s9_16 (Z124_l15 a0 n15) y22_id3_3=Kj21 y22_id3_3:=by
     intro y22_id3_3;refine Qe (hKj21 _) ?_;unfold Z124_j21;all_goals exact ih15 _ _ ⟨by omega,by omega⟩
    refine Q.condO ?_ ?_
    ·refine Q.bindO (Z111_eq _ _) fun x31=>?_;refine Q.bindO (Z111_eq _ _) fun x32=>?_;all_goals exact hj21 _
    refine Q.condO ?_ ?_
    ·refine Q.bindO (Z112_eq _ _) fun x35=>?_;all_goals exact hj21 _
    refine Q.condO ?_ ?_
    ·refine Q.bindO (Z112_eq _ _) fun x38=>?_;all_goals exact hj21 _
    refine Q.condO ?_ ?_
    ·refine Q.bindO (Z112_eq _ _) fun x41=>?_;all_goals exact hj21 _
    refine Q.condO ?_ ?_
    ·refine Q.bindO (Z111_eq _ _) fun x46=>?_;all_goals exact hj21 _
    refine Q.bindO (Z112_eq _ _) fun x48=>?_;refine Q.bindO rfl fun x50=>?_;refine Q.bindO (Z111_eq _ _) fun x51=>?_;refine Q.bindO rfl fun x52=>?_;refine Q.bindO (Z111_eq _ _) fun x53=>?_;all_goals exact hj21 _
   refine Q.condP ?_ ?_
   ·all_goals exact hj27 _
   all_goals exact hj27 _
  rw [dL (by omega),Z124_q15];refine QF hlt ?_;exact hend n15 s9_16 y17_id3_3
def Z124_q (a0:Bs):Option Bs:=(Z111_q Strings_Builder.zero (34:Int)).bind fun x6=>Option.bind (Z124_q15  a0 x6.2) fun y17_id3_3=>on (y17_id3_3) fun y8_id3_3=>(Z111_q y8_id3_3 (34:Int)).bind fun x10=>(Z110_q x10.2).bind fun x12=>some x12
theorem Z124_eq (a0:Bs):Z124 a0=Z124_q a0:=by
 unfold Z124 Z124_q;refine Qs ?_;refine Q.bindO (Z111_eq _ _) fun x6=>?_;refine Q.wrapOO fun Kb15 hKb15=>?_;refine Z124_l15_qe  Kb15 ?_ _ _ _ ⟨Nat.succ_pos _,by omega⟩;intro n15 s9_16 y17_id3_3;refine Qe (hKb15 _) ?_;refine Q.wrapPO fun Kj7 hKj7=>?_;have hj7:∀(y8_id3_3:Strings_Builder),Z124_j7  y8_id3_3=Kj7 y8_id3_3:=by
  intro y8_id3_3;refine Qe (hKj7 _) ?_;unfold Z124_j7;refine Q.bindO (Z111_eq _ _) fun x10=>?_;refine Q.bindO (Z110_eq _) fun x12=>?_;all_goals rfl
 all_goals exact hj7 _
def Z12_q (a0:Z5):Option Bs:=bif (!a0.FHas) then(some ([]:Bs)) else((Z100 a0.FDefault).bind fun x7=>some x7)
theorem Z12_eq (a0:Z5):Z12 a0=Z12_q a0:=by
 unfold Z12 Z12_q;refine Qs ?_;refine Q.condO ?_ ?_
 ·all_goals rfl
 refine Q.bindO rfl fun x7=>?_;all_goals rfl
def Z19_q (a0:Z5):Option Bs:=bif (!a0.FHas) then((Z138_q a0.FType).bind fun x6=>some x6) else((Z138_q a0.FType).bind fun x8=>(catC x8 ([32,61,32]:Bs)).bind fun x9=>(Z12_q a0).bind fun x10=>(catC x9 x10).bind fun x11=>some x11)
theorem Z19_eq (a0:Z5):Z19 a0=Z19_q a0:=by
 unfold Z19 Z19_q;refine Qs ?_;refine Q.condO ?_ ?_
 ·refine Q.bindO (Z138_eq _) fun x6=>?_;all_goals rfl
 refine Q.bindO (Z138_eq _) fun x8=>?_;refine Q.bindO rfl fun x9=>?_;refine Q.bindO (Z12_eq _) fun x10=>?_;refine Q.bindO rfl fun x11=>?_;all_goals rfl
def Z145_q (a0:Z7) (a1:Z7):Option Bool:=(Z144 a0 a1).bind fun x3=>some (decide (x3=(0:Int)))
theorem Z145_eq (a0:Z7) (a1:Z7):Z145 a0 a1=Z145_q a0 a1:=by
 unfold Z145 Z145_q;refine Qs ?_;refine Q.bindO rfl fun x3=>?_;all_goals rfl

def Z18_q26m (a2:(Sl Z5)) (a3:Z1) (a4:(Bs->Option (Bs×Bs))):List Z5->Z0->Option (Z0)
 | [],y28_c0=>some y28_c0
 | h26::r26,y28_c0=>on (h26) fun x35=>(a4 x35.FName).bind fun x37=>on (Z99_q a2 x35.FName) fun x39=>Option.bind (bif (!x39.2) then((Z19_q x35).bind fun x44=>(Z13_q y28_c0 a3.Fgone x37.1 x37.2 x44 ([]:Bs)).bind fun x45=>some x45) else((Z139_q x35.FType x39.1.FType).bind fun x55=>Option.bind (bif (!x55) then((Z138_q x35.FType).bind fun x57=>(Z138_q x39.1.FType).bind fun x58=>(Z13_q y28_c0 a3.Ftyp x37.1 x37.2 x57 x58).bind fun x59=>some x59) else(some y28_c0)) fun y47_c0=>guardO ((!(!(x35.FHas==x39.1.FHas))&&x35.FHas)) (Z145_q x35.FDefault x39.1.FDefault) false fun x49=>bif ((!(x35.FHas==x39.1.FHas))||(x35.FHas&&(!x49))) then((Z12_q x35).bind fun x51=>(Z12_q x39.1).bind fun x52=>(Z13_q y47_c0 a3.Fdef x37.1 x37.2 x51 x52).bind fun x53=>some x53) else(some y47_c0))) fun y33_c0=>Z18_q26m a2 a3 a4 (r26) y33_c0
theorem Z18_l26_qem {a1:(Sl Z5)}{a2:(Sl Z5)}{a3:Z1}{a4:(Bs->Option (Bs×Bs))}  (Kb26:(Z0)->Option Z0) (hend:∀(n26:Nat) (s24_27:Nat) (y28_c0:Z0),Z18_j2 a1 a2 a3 a4  y28_c0=Kb26 y28_c0):∀(n26:Nat) (s24_27:Nat) (y28_c0:Z0),(0<n26/\a1.l.length<s24_27+n26)->Z18_l26 a1 a2 a3 a4 n26 s24_27 y28_c0=Option.bind (Z18_q26m a2 a3 a4 (a1.l.drop s24_27) y28_c0) Kb26:=by
 intro n26;induction n26 with
 | zero=>intro s24_27 y28_c0 hn; exact absurd hn.1 (by omega)
 | succ n26 ih26 =>
  intro s24_27 y28_c0 hn;rw [Z18_l26];by_cases hlt:s24_27<a1.l.length
  ·obtain⟨h26,hh26⟩:=Qa hlt;rw [Q.drop_of hh26,Z18_q26m];refine QT hlt ?_;refine Q.bindPO hh26 fun x35 hx_x35=>?_;refine Q.bindO rfl fun x37=>?_;refine Q.bindPO (Z99_eq _ _) fun x39 hx_x39=>?_;refine Q.wrapOO fun Kj32 hKj32=>?_;have hj32:∀(y33_c0:Z0),Z18_j32 s24_27 (Z18_l26 a1 a2 a3 a4 n26) y33_c0=Kj32 y33_c0:=by
    intro y33_c0;refine Qe (hKj32 _) ?_;unfold Z18_j32;all_goals exact ih26 _ _ ⟨by omega,by omega⟩
   refine Q.condO ?_ ?_
   ·refine Q.bindO (Z19_eq _) fun x44=>?_;refine Q.bindO (Z13_eq _ _ _ _ _ _) fun x45=>?_;all_goals exact hj32 _
   refine Q.bindO (Z139_eq _ _) fun x55=>?_;refine Q.wrapOO fun Kj46 hKj46=>?_;have hj46:∀(y47_c0:Z0),Z18_j46 a3 s24_27 x35 x37 x39 (Z18_l26 a1 a2 a3 a4 n26) y47_c0=Kj46 y47_c0:=by
    intro y47_c0;refine Qe (hKj46 _) ?_;unfold Z18_j46;refine Q.guardOO (Z145_eq _ _) fun x49=>?_;refine Q.condO ?_ ?_
    ·refine Q.bindO (Z12_eq _) fun x51=>?_;refine Q.bindO (Z12_eq _) fun x52=>?_;refine Q.bindO (Z13_eq _ _ _ _ _ _) fun x53=>?_;all_goals exact hj32 _
    all_goals exact hj32 _
   refine Q.condO ?_ ?_
   ·refine Q.bindO (Z138_eq _) fun x57=>?_;refine Q.bindO (Z138_eq _) fun x58=>?_;refine Q.bindO (Z13_eq _ _ _ _ _ _) fun x59=>?_;all_goals exact hj46 _
   all_goals exact hj46 _
  rw [dL (by omega),Z18_q26m];refine QF hlt ?_;exact hend n26 s24_27 y28_c0
def Z18_q6m (a1:(Sl Z5)) (a3:Z1) (a4:(Bs->Option (Bs×Bs))):List Z5->Z0->Option (Z0)
 | [],y8_c0=>some y8_c0
 | h6::r6,y8_c0=>on (h6) fun x15=>on (Z99_q a1 x15.FName) fun x17=>Option.bind (bif (!x17.2) then((a4 x15.FName).bind fun x21=>(Z19_q x15).bind fun x22=>(Z13_q y8_c0 a3.Fadd x21.1 x21.2 ([]:Bs) x22).bind fun x23=>some x23) else(some y8_c0)) fun y13_c0=>Z18_q6m a1 a3 a4 (r6) y13_c0
theorem Z18_l6_qem {a1:(Sl Z5)}{a2:(Sl Z5)}{a3:Z1}{a4:(Bs->Option (Bs×Bs))}  (Kb6:(Z0)->Option Z0) (hend:∀(n6:Nat) (s100_7:Nat) (y8_c0:Z0),some y8_c0=Kb6 y8_c0):∀(n6:Nat) (s100_7:Nat) (y8_c0:Z0),(0<n6/\a2.l.length<s100_7+n6)->Z18_l6 a1 a2 a3 a4 n6 s100_7 y8_c0=Option.bind (Z18_q6m a1 a3 a4 (a2.l.drop s100_7) y8_c0) Kb6:=by
 intro n6;induction n6 with
 | zero=>intro s100_7 y8_c0 hn; exact absurd hn.1 (by omega)
 | succ n6 ih6 =>
  intro s100_7 y8_c0 hn;rw [Z18_l6];by_cases hlt:s100_7<a2.l.length
  ·obtain⟨h6,hh6⟩:=Qa hlt;rw [Q.drop_of hh6,Z18_q6m];refine QT hlt ?_;refine Q.bindPO hh6 fun x15 hx_x15=>?_;refine Q.bindPO (Z99_eq _ _) fun x17 hx_x17=>?_;refine Q.wrapOO fun Kj12 hKj12=>?_;have hj12:∀(y13_c0:Z0),Z18_j12 s100_7 (Z18_l6 a1 a2 a3 a4 n6) y13_c0=Kj12 y13_c0:=by
    intro y13_c0;refine Qe (hKj12 _) ?_;unfold Z18_j12;all_goals exact ih6 _ _ ⟨by omega,by omega⟩
   refine Q.condO ?_ ?_
   ·refine Q.bindO rfl fun x21=>?_;refine Q.bindO (Z19_eq _) fun x22=>?_;refine Q.bindO (Z13_eq _ _ _ _ _ _) fun x23=>?_;all_goals exact hj12 _
   all_goals exact hj12 _
  rw [dL (by omega),Z18_q6m];refine QF hlt ?_;exact hend n6 s100_7 y8_c0
def Z18_qm (a0:Z0) (a1:(Sl Z5)) (a2:(Sl Z5)) (a3:Z1) (a4:(Bs->Option (Bs×Bs))):Option Z0:=Option.bind (Z18_q26m a2 a3 a4 a1.l a0) fun y28_c0=>on (y28_c0) fun y3_c0=>Option.bind (Z18_q6m a1 a3 a4 a2.l y3_c0) fun y8_c0=>some y8_c0
theorem Z18_eqm (a0:Z0) (a1:(Sl Z5)) (a2:(Sl Z5)) (a3:Z1) (a4:(Bs->Option (Bs×Bs))):Z18 a0 a1 a2 a3 a4=Z18_qm a0 a1 a2 a3 a4:=by
 unfold Z18 Z18_qm;refine Qs ?_;refine Q.wrapOO fun Kb26 hKb26=>?_;refine Z18_l26_qem  Kb26 ?_ _ _ _ ⟨Nat.succ_pos _,by omega⟩;intro n26 s24_27 y28_c0;refine Qe (hKb26 _) ?_;refine Q.wrapPO fun Kj2 hKj2=>?_;have hj2:∀(y3_c0:Z0),Z18_j2 a1 a2 a3 a4 y3_c0=Kj2 y3_c0:=by
  intro y3_c0;refine Qe (hKj2 _) ?_;unfold Z18_j2;refine Q.wrapOO fun Kb6 hKb6=>?_;refine Z18_l6_qem  Kb6 ?_ _ _ _ ⟨Nat.succ_pos _,by omega⟩;intro n6 s100_7 y8_c0;refine Qe (hKb6 _) ?_;all_goals rfl
 all_goals exact hj2 _
def Z17_q (a0:Bs) (a1:Z4):(Bs×Bs):=(a1.FName,a0)
theorem Z17_eq (a0:Bs) (a1:Z4):Z17 a0 a1=some (Z17_q a0 a1):=by
 unfold Z17 Z17_q;all_goals rfl
def Z16_q24 (a2:TDef):List Z4->Z0->Option (Z0)
 | [],y26_c0=>some y26_c0
 | h24::r24,y26_c0=>on (h24) fun x33=>on (Z97_q a2 x33.FName) fun x35=>Option.bind (bif (!x35.2) then((Z138_q x33.FType).bind fun x40=>(Z13_q y26_c0 (4:Int) x33.FName ([]:Bs) x40 ([]:Bs)).bind fun x41=>some x41) else((Z139_q x33.FType x35.1.FType).bind fun x46=>Option.bind (bif (!x46) then((Z138_q x33.FType).bind fun x48=>(Z138_q x35.1.FType).bind fun x49=>(Z13_q y26_c0 (6:Int) x33.FName ([]:Bs) x48 x49).bind fun x50=>some x50) else(some y26_c0)) fun y43_c0=>(Z18_qm y43_c0 x33.FArgs x35.1.FArgs (Z1.mk (7:Int) (8:Int) (9:Int) (10:Int)) (fun y0=>some (Z17_q y0 x33))).bind fun x44=>some x44)) fun y31_c0=>Z16_q24 a2 (r24) y31_c0
theorem Z16_l24_qe {a1:TDef}{a2:TDef}  (Kb24:(Z0)->Option Z0) (hend:∀(n24:Nat) (s17_25:Nat) (y26_c0:Z0),Z16_j2 a1 a2  y26_c0=Kb24 y26_c0):∀(n24:Nat) (s17_25:Nat) (y26_c0:Z0),(0<n24/\a1.FFields.l.length<s17_25+n24)->Z16_l24 a1 a2 n24 s17_25 y26_c0=Option.bind (Z16_q24 a2 (a1.FFields.l.drop s17_25) y26_c0) Kb24:=by
 intro n24;induction n24 with
 | zero=>intro s17_25 y26_c0 hn; exact absurd hn.1 (by omega)
 | succ n24 ih24 =>
  intro s17_25 y26_c0 hn;rw [Z16_l24];by_cases hlt:s17_25<a1.FFields.l.length
  ·obtain⟨h24,hh24⟩:=Qa hlt;rw [Q.drop_of hh24,Z16_q24];refine QT hlt ?_;refine Q.bindPO hh24 fun x33 hx_x33=>?_;refine Q.bindPO (Z97_eq _ _) fun x35 hx_x35=>?_;refine Q.wrapOO fun Kj30 hKj30=>?_;have hj30:∀(y31_c0:Z0),Z16_j30 s17_25 (Z16_l24 a1 a2 n24) y31_c0=Kj30 y31_c0:=by
    intro y31_c0;refine Qe (hKj30 _) ?_;unfold Z16_j30;all_goals exact ih24 _ _ ⟨by omega,by omega⟩
   refine Q.condO ?_ ?_
   ·refine Q.bindO (Z138_eq _) fun x40=>?_;refine Q.bindO (Z13_eq _ _ _ _ _ _) fun x41=>?_;all_goals exact hj30 _
   refine Q.bindO (Z139_eq _ _) fun x46=>?_;refine Q.wrapOO fun Kj42 hKj42=>?_;have hj42:∀(y43_c0:Z0),Z16_j42 s17_25 x33 x35 (Z16_l24 a1 a2 n24) y43_c0=Kj42 y43_c0:=by
    intro y43_c0;refine Qe (hKj42 _) ?_;unfold Z16_j42;refine Q.bindO (by simp only [Z17_eq,Z18_eqm]) fun x44=>?_;all_goals exact hj30 _
   refine Q.condO ?_ ?_
   ·refine Q.bindO (Z138_eq _) fun x48=>?_;refine Q.bindO (Z138_eq _) fun x49=>?_;refine Q.bindO (Z13_eq _ _ _ _ _ _) fun x50=>?_;all_goals exact hj42 _
   all_goals exact hj42 _
  rw [dL (by omega),Z16_q24];refine QF hlt ?_;exact hend n24 s17_25 y26_c0
def Z16_q6 (a1:TDef):List Z4->Z0->Option (Z0)
 | [],y8_c0=>some y8_c0
 | h6::r6,y8_c0=>on (h6) fun x15=>on (Z97_q a1 x15.FName) fun x17=>Option.bind (bif (!x17.2) then((Z138_q x15.FType).bind fun x20=>(Z13_q y8_c0 (5:Int) x15.FName ([]:Bs) ([]:Bs) x20).bind fun x21=>some x21) else(some y8_c0)) fun y13_c0=>Z16_q6 a1 (r6) y13_c0
theorem Z16_l6_qe {a1:TDef}{a2:TDef}  (Kb6:(Z0)->Option Z0) (hend:∀(n6:Nat) (s65_7:Nat) (y8_c0:Z0),some y8_c0=Kb6 y8_c0):∀(n6:Nat) (s65_7:Nat) (y8_c0:Z0),(0<n6/\a2.FFields.l.length<s65_7+n6)->Z16_l6 a1 a2 n6 s65_7 y8_c0=Option.bind (Z16_q6 a1 (a2.FFields.l.drop s65_7) y8_c0) Kb6:=by
 intro n6;induction n6 with
 | zero=>intro s65_7 y8_c0 hn; exact absurd hn.1 (by omega)
 | succ n6 ih6 =>
  intro s65_7 y8_c0 hn;rw [Z16_l6];by_cases hlt:s65_7<a2.FFields.l.length
  ·obtain⟨h6,hh6⟩:=Qa hlt;rw [Q.drop_of hh6,Z16_q6];refine QT hlt ?_;refine Q.bindPO hh6 fun x15 hx_x15=>?_;refine Q.bindPO (Z97_eq _ _) fun x17 hx_x17=>?_;refine Q.wrapOO fun Kj12 hKj12=>?_;have hj12:∀(y13_c0:Z0),Z16_j12 s65_7 (Z16_l6 a1 a2 n6) y13_c0=Kj12 y13_c0:=by
    intro y13_c0;refine Qe (hKj12 _) ?_;unfold Z16_j12;all_goals exact ih6 _ _ ⟨by omega,by omega⟩
   refine Q.condO ?_ ?_
   ·refine Q.bindO (Z138_eq _) fun x20=>?_;refine Q.bindO (Z13_eq _ _ _ _ _ _) fun x21=>?_;all_goals exact hj12 _
   all_goals exact hj12 _
  rw [dL (by omega),Z16_q6];refine QF hlt ?_;exact hend n6 s65_7 y8_c0
def Z16_q (a0:Z0) (a1:TDef) (a2:TDef):Option Z0:=Option.bind (Z16_q24 a2 a1.FFields.l a0) fun y26_c0=>on (y26_c0) fun y3_c0=>Option.bind (Z16_q6 a1 a2.FFields.l y3_c0) fun y8_c0=>some y8_c0
theorem Z16_eq (a0:Z0) (a1:TDef) (a2:TDef):Z16 a0 a1 a2=Z16_q a0 a1 a2:=by
 unfold Z16 Z16_q;refine Qs ?_;refine Q.wrapOO fun Kb24 hKb24=>?_;refine Z16_l24_qe  Kb24 ?_ _ _ _ ⟨Nat.succ_pos _,by omega⟩;intro n24 s17_25 y26_c0;refine Qe (hKb24 _) ?_;refine Q.wrapPO fun Kj2 hKj2=>?_;have hj2:∀(y3_c0:Z0),Z16_j2 a1 a2 y3_c0=Kj2 y3_c0:=by
  intro y3_c0;refine Qe (hKj2 _) ?_;unfold Z16_j2;refine Q.wrapOO fun Kb6 hKb6=>?_;refine Z16_l6_qe  Kb6 ?_ _ _ _ ⟨Nat.succ_pos _,by omega⟩;intro n6 s65_7 y8_c0;refine Qe (hKb6 _) ?_;all_goals rfl
 all_goals exact hj2 _
end Go.Proofs

namespace Go.Proofs
open Go Go.Ab
def Z23_q8 :List Z6->(Sl Bs)->Option ((Sl Bs))
 | [],s3_9=>some s3_9
 | h8::r8,s3_9=>on (h8) fun x16=>(appC 16 s3_9 (⟨false,[x16.FName]⟩:Sl Bs)).bind fun x17=>Z23_q8  (r8) x17
theorem Z23_l8_qe {a0:(Sl Z6)}  (Kb8:((Sl Bs))->Option (Sl Bs)) (hend:∀(n8:Nat) (s3_9:(Sl Bs)) (s8_10:Nat),Z23_j3   s3_9=Kb8 s3_9):∀(n8:Nat) (s3_9:(Sl Bs)) (s8_10:Nat),(0<n8/\a0.l.length<s8_10+n8)->Z23_l8 a0 n8 s3_9 s8_10=Option.bind (Z23_q8  (a0.l.drop s8_10) s3_9) Kb8:=by
 intro n8;induction n8 with
 | zero=>intro s3_9 s8_10 hn; exact absurd hn.1 (by omega)
 | succ n8 ih8 =>
  intro s3_9 s8_10 hn;rw [Z23_l8];by_cases hlt:s8_10<a0.l.length
  ·obtain⟨h8,hh8⟩:=Qa hlt;rw [Q.drop_of hh8,Z23_q8];refine QT hlt ?_;refine Q.bindPO hh8 fun x16 hx_x16=>?_;refine Q.bindO rfl fun x17=>?_;all_goals exact ih8 _ _ ⟨by omega,by omega⟩
  rw [dL (by omega),Z23_q8];refine QF hlt ?_;exact hend n8 s3_9 s8_10
def Z23_q (a0:(Sl Z6)):Option (Sl Bs):=Option.bind (Z23_q8  a0.l (Sl.nil:Sl Bs)) fun s3_9=>on (s3_9) fun s3_4=>some s3_4
theorem Z23_eq (a0:(Sl Z6)):Z23 a0=Z23_q a0:=by
 unfold Z23 Z23_q;refine Qs ?_;refine Q.wrapOO fun Kb8 hKb8=>?_;refine Z23_l8_qe  Kb8 ?_ _ _ _ ⟨Nat.succ_pos _,by omega⟩;intro n8 s3_9 s8_10;refine Qe (hKb8 _) ?_;refine Q.wrapPO fun Kj3 hKj3=>?_;have hj3:∀(s3_4:(Sl Bs)),Z23_j3  s3_4=Kj3 s3_4:=by
  intro s3_4;refine Qe (hKj3 _) ?_;unfold Z23_j3;all_goals rfl
 all_goals exact hj3 _
def Z102_q (a0:(Sl Bs)):Option (Sl Bs):=bif a0.nl then(some (Sl.nil:Sl Bs)) else((appC 16 (⟨false,[]⟩:Sl Bs) a0).bind fun x7=>some x7)
theorem Z102_eq (a0:(Sl Bs)):Z102 a0=Z102_q a0:=by
 unfold Z102 Z102_q;refine Qs ?_;refine Q.condO ?_ ?_
 ·all_goals rfl
 refine Q.bindO rfl fun x7=>?_;all_goals rfl
def Z107_q6 (a1:Bs):List Bs->Nat->Unit ⊕ Int
 | [],s8_7=>Sum.inl ()
 | h6::r6,s8_7=>on (h6) fun x14=>bif ((a1==x14)) then(Sum.inr ((s8_7:Nat):Int)) else(Z107_q6 a1 (r6) (s8_7+1) )
theorem Z107_l6_qe {a0:(Sl Bs)}{a1:Bs}  (Kb6:(Unit ⊕ Int)->Option Int) (hend:∀(n6:Nat) (s8_7:Nat),Z107_j2   =Kb6 (Sum.inl ())) (hret:∀e:Int,some e=Kb6 (Sum.inr e)):∀(n6:Nat) (s8_7:Nat),(0<n6/\a0.l.length<s8_7+n6)->Z107_l6 a0 a1 n6 s8_7=Kb6 (Z107_q6 a1 (a0.l.drop s8_7) s8_7 ):=by
 intro n6;induction n6 with
 | zero=>intro s8_7 hn; exact absurd hn.1 (by omega)
 | succ n6 ih6 =>
  intro s8_7 hn;rw [Z107_l6];by_cases hlt:s8_7<a0.l.length
  ·obtain⟨h6,hh6⟩:=Qa hlt;rw [Q.drop_of hh6,Z107_q6];refine QT hlt ?_;refine Q.bindP hh6 fun x14 hx_x14=>?_;refine Q.condP ?_ ?_
   ·all_goals exact hret _
   all_goals exact ih6 _ ⟨by omega,by omega⟩
  rw [dL (by omega),Z107_q6];refine QF hlt ?_;exact hend n6 s8_7
def Z107_q (a0:(Sl Bs)) (a1:Bs):Int:=on (Z107_q6 a1 a0.l 0 ) fun o6=>match o6 with|Sum.inl _=>(on (()) fun _=>(-1:Int))|Sum.inr e6=>(e6)
theorem Z107_eq (a0:(Sl Bs)) (a1:Bs):Z107 a0 a1=some (Z107_q a0 a1):=by
 unfold Z107 Z107_q;refine Q.wrapPP fun Kb6 hKb6=>?_;refine Z107_l6_qe  Kb6 ?_ ?_ _ _ ⟨Nat.succ_pos _,by omega⟩
 ·intro n6 s8_7;refine Qe (hKb6 _) ?_;try dsimp only
  refine Q.wrapPP fun Kj2 hKj2=>?_;have hj2:Z107_j2  =Kj2 ():=by
   refine Qe (hKj2 _) ?_;unfold Z107_j2;all_goals rfl
  all_goals exact hj2
 intro e6;refine Qe (hKb6 _) ?_;try dsimp only
 all_goals rfl
def Z103_q (a0:(Sl Bs)) (a1:Bs):Bool:=on (Z107_q a0 a1) fun x3=>(decide ((0:Int)<=x3))
theorem Z103_eq (a0:(Sl Bs)) (a1:Bs):Z103 a0 a1=some (Z103_q a0 a1):=by
 unfold Z103 Z103_q;refine Q.bindP (Z107_eq _ _) fun x3 hx_x3=>?_;all_goals rfl
def Z22_q (a0:Bs) (a1:(Sl Bs)):Bool:=on (Z103_q a1 a0) fun x3=>x3
theorem Z22_eq (a0:Bs) (a1:(Sl Bs)):Z22 a0 a1=some (Z22_q a0 a1):=by
 unfold Z22 Z22_q;refine Q.bindP (Z103_eq _ _) fun x3 hx_x3=>?_;all_goals rfl
def Z21_q (a0:(Sl Bs)) (a1:(Sl Bs)):Option (Sl Bs):=(Z102_q a0).bind fun x3=>(some (delL (fun y0=>Z22 y0 a1) x3)).bind fun x4=>some x4
theorem Z21_eq (a0:(Sl Bs)) (a1:(Sl Bs)):Z21 a0 a1=Z21_q a0 a1:=by
 unfold Z21 Z21_q;refine Qs ?_;refine Q.bindO (Z102_eq _) fun x3=>?_;refine Q.bindO rfl fun x4=>?_;all_goals rfl
def Z14_q57 :List Bs->Z0->Option (Z0)
 | [],y59_c0=>some y59_c0
 | h57::r57,y59_c0=>on (h57) fun x65=>(Z13_q y59_c0 (11:Int) x65 ([]:Bs) ([]:Bs) ([]:Bs)).bind fun x66=>Z14_q57  (r57) x66
theorem Z14_l57_qe {a1:TDef}{a2:TDef}{x5:(Sl Bs)}{x6:(Sl Bs)}{x55:(Sl Bs)}  (Kb57:(Z0)->Option Z0) (hend:∀(n57:Nat) (s30_58:Nat) (y59_c0:Z0),Z14_j7 a1 a2 x5 x6  y59_c0=Kb57 y59_c0):∀(n57:Nat) (s30_58:Nat) (y59_c0:Z0),(0<n57/\x55.l.length<s30_58+n57)->Z14_l57 a1 a2 x5 x6 x55 n57 s30_58 y59_c0=Option.bind (Z14_q57  (x55.l.drop s30_58) y59_c0) Kb57:=by
 intro n57;induction n57 with
 | zero=>intro s30_58 y59_c0 hn; exact absurd hn.1 (by omega)
 | succ n57 ih57 =>
  intro s30_58 y59_c0 hn;rw [Z14_l57];by_cases hlt:s30_58<x55.l.length
  ·obtain⟨h57,hh57⟩:=Qa hlt;rw [Q.drop_of hh57,Z14_q57];refine QT hlt ?_;refine Q.bindPO hh57 fun x65 hx_x65=>?_;refine Q.bindO (Z13_eq _ _ _ _ _ _) fun x66=>?_;all_goals exact ih57 _ _ ⟨by omega,by omega⟩
  rw [dL (by omega),Z14_q57];refine QF hlt ?_;exact hend n57 s30_58 y59_c0
def Z14_q44 :List Bs->Z0->Option (Z0)
 | [],y46_c0=>some y46_c0
 | h44::r44,y46_c0=>on (h44) fun x52=>(Z13_q y46_c0 (12:Int) x52 ([]:Bs) ([]:Bs) ([]:Bs)).bind fun x53=>Z14_q44  (r44) x53
theorem Z14_l44_qe {a1:TDef}{a2:TDef}{x42:(Sl Bs)}  (Kb44:(Z0)->Option Z0) (hend:∀(n44:Nat) (s42_45:Nat) (y46_c0:Z0),Z14_j9 a1 a2  y46_c0=Kb44 y46_c0):∀(n44:Nat) (s42_45:Nat) (y46_c0:Z0),(0<n44/\x42.l.length<s42_45+n44)->Z14_l44 a1 a2 x42 n44 s42_45 y46_c0=Option.bind (Z14_q44  (x42.l.drop s42_45) y46_c0) Kb44:=by
 intro n44;induction n44 with
 | zero=>intro s42_45 y46_c0 hn; exact absurd hn.1 (by omega)
 | succ n44 ih44 =>
  intro s42_45 y46_c0 hn;rw [Z14_l44];by_cases hlt:s42_45<x42.l.length
  ·obtain⟨h44,hh44⟩:=Qa hlt;rw [Q.drop_of hh44,Z14_q44];refine QT hlt ?_;refine Q.bindPO hh44 fun x52 hx_x52=>?_;refine Q.bindO (Z13_eq _ _ _ _ _ _) fun x53=>?_;all_goals exact ih44 _ _ ⟨by omega,by omega⟩
  rw [dL (by omega),Z14_q44];refine QF hlt ?_;exact hend n44 s42_45 y46_c0
def Z14_q31 :List Bs->Z0->Option (Z0)
 | [],y33_c0=>some y33_c0
 | h31::r31,y33_c0=>on (h31) fun x39=>(Z13_q y33_c0 (17:Int) ([]:Bs) ([]:Bs) x39 ([]:Bs)).bind fun x40=>Z14_q31  (r31) x40
theorem Z14_l31_qe {a1:TDef}{a2:TDef}{x29:(Sl Bs)}  (Kb31:(Z0)->Option Z0) (hend:∀(n31:Nat) (s63_32:Nat) (y33_c0:Z0),Z14_j13 a1 a2  y33_c0=Kb31 y33_c0):∀(n31:Nat) (s63_32:Nat) (y33_c0:Z0),(0<n31/\x29.l.length<s63_32+n31)->Z14_l31 a1 a2 x29 n31 s63_32 y33_c0=Option.bind (Z14_q31  (x29.l.drop s63_32) y33_c0) Kb31:=by
 intro n31;induction n31 with
 | zero=>intro s63_32 y33_c0 hn; exact absurd hn.1 (by omega)
 | succ n31 ih31 =>
  intro s63_32 y33_c0 hn;rw [Z14_l31];by_cases hlt:s63_32<x29.l.length
  ·obtain⟨h31,hh31⟩:=Qa hlt;rw [Q.drop_of hh31,Z14_q31];refine QT hlt ?_;refine Q.bindPO hh31 fun x39 hx_x39=>?_;refine Q.bindO (Z13_eq _ _ _ _ _ _) fun x40=>?_;all_goals exact ih31 _ _ ⟨by omega,by omega⟩
  rw [dL (by omega),Z14_q31];refine QF hlt ?_;exact hend n31 s63_32 y33_c0
def Z14_q18 :List Bs->Z0->Option (Z0)
 | [],y20_c0=>some y20_c0
 | h18::r18,y20_c0=>on (h18) fun x26=>(Z13_q y20_c0 (18:Int) ([]:Bs) ([]:Bs) ([]:Bs) x26).bind fun x27=>Z14_q18  (r18) x27
theorem Z14_l18_qe {x16:(Sl Bs)}  (Kb18:(Z0)->Option Z0) (hend:∀(n18:Nat) (s77_19:Nat) (y20_c0:Z0),some y20_c0=Kb18 y20_c0):∀(n18:Nat) (s77_19:Nat) (y20_c0:Z0),(0<n18/\x16.l.length<s77_19+n18)->Z14_l18 x16 n18 s77_19 y20_c0=Option.bind (Z14_q18  (x16.l.drop s77_19) y20_c0) Kb18:=by
 intro n18;induction n18 with
 | zero=>intro s77_19 y20_c0 hn; exact absurd hn.1 (by omega)
 | succ n18 ih18 =>
  intro s77_19 y20_c0 hn;rw [Z14_l18];by_cases hlt:s77_19<x16.l.length
  ·obtain⟨h18,hh18⟩:=Qa hlt;rw [Q.drop_of hh18,Z14_q18];refine QT hlt ?_;refine Q.bindPO hh18 fun x26 hx_x26=>?_;refine Q.bindO (Z13_eq _ _ _ _ _ _) fun x27=>?_;all_goals exact ih18 _ _ ⟨by omega,by omega⟩
  rw [dL (by omega),Z14_q18];refine QF hlt ?_;exact hend n18 s77_19 y20_c0
def Z14_q (a0:Z0) (a1:TDef) (a2:TDef):Option Z0:=(Z16_q a0 a1 a2).bind fun x3=>(Z23_q a1.FMembers).bind fun x5=>(Z23_q a2.FMembers).bind fun x6=>(Z21_q x5 x6).bind fun x55=>Option.bind (Z14_q57  x55.l x3) fun y59_c0=>on (y59_c0) fun y8_c0=>(Z21_q x6 x5).bind fun x42=>Option.bind (Z14_q44  x42.l y8_c0) fun y46_c0=>on (y46_c0) fun y10_c0=>(Z18_qm y10_c0 a1.FInputs a2.FInputs (Z1.mk (13:Int) (14:Int) (15:Int) (16:Int)) Z15).bind fun x12=>(Z21_q a1.FImplements a2.FImplements).bind fun x29=>Option.bind (Z14_q31  x29.l x12) fun y33_c0=>on (y33_c0) fun y14_c0=>(Z21_q a2.FImplements a1.FImplements).bind fun x16=>Option.bind (Z14_q18  x16.l y14_c0) fun y20_c0=>some y20_c0
theorem Z14_eq (a0:Z0) (a1:TDef) (a2:TDef):Z14 a0 a1 a2=Z14_q a0 a1 a2:=by
 unfold Z14 Z14_q;refine Qs ?_;refine Q.bindO (Z16_eq _ _ _) fun x3=>?_;refine Q.bindO (Z23_eq _) fun x5=>?_;refine Q.bindO (Z23_eq _) fun x6=>?_;refine Q.bindO (Z21_eq _ _) fun x55=>?_;refine Q.wrapOO fun Kb57 hKb57=>?_;refine Z14_l57_qe  Kb57 ?_ _ _ _ ⟨Nat.succ_pos _,by omega⟩;intro n57 s30_58 y59_c0;refine Qe (hKb57 _) ?_;refine Q.wrapPO fun Kj7 hKj7=>?_;have hj7:∀(y8_c0:Z0),Z14_j7 a1 a2 x5 x6 y8_c0=Kj7 y8_c0:=by
  intro y8_c0;refine Qe (hKj7 _) ?_;unfold Z14_j7;refine Q.bindO (Z21_eq _ _) fun x42=>?_;refine Q.wrapOO fun Kb44 hKb44=>?_;refine Z14_l44_qe  Kb44 ?_ _ _ _ ⟨Nat.succ_pos _,by omega⟩;intro n44 s42_45 y46_c0;refine Qe (hKb44 _) ?_;refine Q.wrapPO fun Kj9 hKj9=>?_;have hj9:∀(y10_c0:Z0),Z14_j9 a1 a2 y10_c0=Kj9 y10_c0:=by
   intro y10_c0;refine Qe (hKj9 _) ?_;unfold Z14_j9;refine Q.bindO (by simp only [Z18_eqm]) fun x12=>?_;refine Q.bindO (Z21_eq _ _) fun x29=>?_;refine Q.wrapOO fun Kb31 hKb31=>?_;refine Z14_l31_qe  Kb31 ?_ _ _ _ ⟨Nat.succ_pos _,by omega⟩;intro n31 s63_32 y33_c0;refine Qe (hKb31 _) ?_;refine Q.wrapPO fun Kj13 hKj13=>?_;have hj13:∀(y14_c0:Z0),Z14_j13 a1 a2 y14_c0=Kj13 y14_c0:=by
    intro y14_c0;refine Qe (hKj13 _) ?_;unfold Z14_j13;refine Q.bindO (Z21_eq _ _) fun x16=>?_;refine Q.wrapOO fun Kb18 hKb18=>?_;refine Z14_l18_qe  Kb18 ?_ _ _ _ ⟨Nat.succ_pos _,by omega⟩;intro n18 s77_19 y20_c0;refine Qe (hKb18 _) ?_;all_goals rfl
   all_goals exact hj13 _
  all_goals exact hj9 _
 all_goals exact hj7 _
def Z10_q56 (a1:TDoc):List TDef->Z0->Option (Z0)
 | [],y58_id19_3=>some y58_id19_3
 | h56::r56,y58_id19_3=>on (h56) fun x65=>on (Z98_q a1 x65.FName) fun x68=>Option.bind (bif (!x68.2) then(on (Z20_q x65.FKind) fun x71=>(Z13_q (Z0.mk x65.FName y58_id19_3.Fout) (1:Int) ([]:Bs) ([]:Bs) x71 ([]:Bs)).bind fun x72=>some x72) else(some (Z0.mk x65.FName y58_id19_3.Fout))) fun y63_id19_3=>Z10_q56 a1 (r56) y63_id19_3
theorem Z10_l56_qe {a0:TDoc}{a1:TDoc}  (Kb56:(Z0)->Option (Sl Z2)) (hend:∀(n56:Nat) (s23_57:Nat) (y58_id19_3:Z0),Z10_j5 a0 a1  y58_id19_3=Kb56 y58_id19_3):∀(n56:Nat) (s23_57:Nat) (y58_id19_3:Z0),(0<n56/\a0.FDefs.l.length<s23_57+n56)->Z10_l56 a0 a1 n56 s23_57 y58_id19_3=Option.bind (Z10_q56 a1 (a0.FDefs.l.drop s23_57) y58_id19_3) Kb56:=by
 intro n56;induction n56 with
 | zero=>intro s23_57 y58_id19_3 hn; exact absurd hn.1 (by omega)
 | succ n56 ih56 =>
  intro s23_57 y58_id19_3 hn;rw [Z10_l56];by_cases hlt:s23_57<a0.FDefs.l.length
  ·obtain⟨h56,hh56⟩:=Qa hlt;rw [Q.drop_of hh56,Z10_q56];refine QT hlt ?_;refine Q.bindPO hh56 fun x65 hx_x65=>?_;refine Q.bindPO (Z98_eq _ _) fun x68 hx_x68=>?_;refine Q.wrapOO fun Kj62 hKj62=>?_;have hj62:∀(y63_id19_3:Z0),Z10_j62 s23_57 (Z10_l56 a0 a1 n56) y63_id19_3=Kj62 y63_id19_3:=by
    intro y63_id19_3;refine Qe (hKj62 _) ?_;unfold Z10_j62;all_goals exact ih56 _ _ ⟨by omega,by omega⟩
   refine Q.condO ?_ ?_
   ·refine Q.bindPO (Z20_eq _) fun x71 hx_x71=>?_;refine Q.bindO (Z13_eq _ _ _ _ _ _) fun x72=>?_;all_goals exact hj62 _
   all_goals exact hj62 _
  rw [dL (by omega),Z10_q56];refine QF hlt ?_;exact hend n56 s23_57 y58_id19_3
def Z10_q33 (a1:TDoc):List TDef->Z0->Option (Z0)
 | [],y35_id19_3=>some y35_id19_3
 | h33::r33,y35_id19_3=>on (h33) fun x42=>on (Z98_q a1 x42.FName) fun x45=>Option.bind (bif (!x45.2) then(some (Z0.mk x42.FName y35_id19_3.Fout)) else(bif (!decide (x42.FKind=x45.1.FKind)) then(on (Z20_q x42.FKind) fun x50=>on (Z20_q x45.1.FKind) fun x51=>(Z13_q (Z0.mk x42.FName y35_id19_3.Fout) (3:Int) ([]:Bs) ([]:Bs) x50 x51).bind fun x52=>some x52) else((Z14_q (Z0.mk x42.FName y35_id19_3.Fout) x42 x45.1).bind fun x53=>some x53))) fun y40_id19_3=>Z10_q33 a1 (r33) y40_id19_3
theorem Z10_l33_qe {a0:TDoc}{a1:TDoc}  (Kb33:(Z0)->Option (Sl Z2)) (hend:∀(n33:Nat) (s50_34:Nat) (y35_id19_3:Z0),Z10_j7 a0 a1  y35_id19_3=Kb33 y35_id19_3):∀(n33:Nat) (s50_34:Nat) (y35_id19_3:Z0),(0<n33/\a0.FDefs.l.length<s50_34+n33)->Z10_l33 a0 a1 n33 s50_34 y35_id19_3=Option.bind (Z10_q33 a1 (a0.FDefs.l.drop s50_34) y35_id19_3) Kb33:=by
 intro n33;induction n33 with
 | zero=>intro s50_34 y35_id19_3 hn; exact absurd hn.1 (by omega)
 | succ n33 ih33 =>
  intro s50_34 y35_id19_3 hn;rw [Z10_l33];by_cases hlt:s50_34<a0.FDefs.l.length
  ·obtain⟨h33,hh33⟩:=Qa hlt;rw [Q.drop_of hh33,Z10_q33];refine QT hlt ?_;refine Q.bindPO hh33 fun x42 hx_x42=>?_;refine Q.bindPO (Z98_eq _ _) fun x45 hx_x45=>?_;refine Q.wrapOO fun Kj39 hKj39=>?_;have hj39:∀(y40_id19_3:Z0),Z10_j39 s50_34 (Z10_l33 a0 a1 n33) y40_id19_3=Kj39 y40_id19_3:=by
    intro y40_id19_3;refine Qe (hKj39 _) ?_;unfold Z10_j39;all_goals exact ih33 _ _ ⟨by omega,by omega⟩
   refine Q.condO ?_ ?_
   ·all_goals exact hj39 _
   refine Q.condO ?_ ?_
   ·refine Q.bindPO (Z20_eq _) fun x50 hx_x50=>?_;refine Q.bindPO (Z20_eq _) fun x51 hx_x51=>?_;refine Q.bindO (Z13_eq _ _ _ _ _ _) fun x52=>?_;all_goals exact hj39 _
   refine Q.bindO (Z14_eq _ _ _) fun x53=>?_;all_goals exact hj39 _
  rw [dL (by omega),Z10_q33];refine QF hlt ?_;exact hend n33 s50_34 y35_id19_3
def Z10_q14 (a0:TDoc):List TDef->Z0->Option (Z0)
 | [],y16_id19_3=>some y16_id19_3
 | h14::r14,y16_id19_3=>on (h14) fun x23=>on (Z98_q a0 x23.FName) fun x26=>Option.bind (bif (!x26.2) then(on (Z20_q x23.FKind) fun x29=>(Z13_q (Z0.mk x23.FName y16_id19_3.Fout) (2:Int) ([]:Bs) ([]:Bs) ([]:Bs) x29).bind fun x30=>some x30) else(some (Z0.mk x23.FName y16_id19_3.Fout))) fun y21_id19_3=>Z10_q14 a0 (r14) y21_id19_3
theorem Z10_l14_qe {a0:TDoc}{a1:TDoc}  (Kb14:(Z0)->Option (Sl Z2)) (hend:∀(n14:Nat) (s91_15:Nat) (y16_id19_3:Z0),Z10_j9   y16_id19_3=Kb14 y16_id19_3):∀(n14:Nat) (s91_15:Nat) (y16_id19_3:Z0),(0<n14/\a1.FDefs.l.length<s91_15+n14)->Z10_l14 a0 a1 n14 s91_15 y16_id19_3=Option.bind (Z10_q14 a0 (a1.FDefs.l.drop s91_15) y16_id19_3) Kb14:=by
 intro n14;induction n14 with
 | zero=>intro s91_15 y16_id19_3 hn; exact absurd hn.1 (by omega)
 | succ n14 ih14 =>
  intro s91_15 y16_id19_3 hn;rw [Z10_l14];by_cases hlt:s91_15<a1.FDefs.l.length
  ·obtain⟨h14,hh14⟩:=Qa hlt;rw [Q.drop_of hh14,Z10_q14];refine QT hlt ?_;refine Q.bindPO hh14 fun x23 hx_x23=>?_;refine Q.bindPO (Z98_eq _ _) fun x26 hx_x26=>?_;refine Q.wrapOO fun Kj20 hKj20=>?_;have hj20:∀(y21_id19_3:Z0),Z10_j20 s91_15 (Z10_l14 a0 a1 n14) y21_id19_3=Kj20 y21_id19_3:=by
    intro y21_id19_3;refine Qe (hKj20 _) ?_;unfold Z10_j20;all_goals exact ih14 _ _ ⟨by omega,by omega⟩
   refine Q.condO ?_ ?_
   ·refine Q.bindPO (Z20_eq _) fun x29 hx_x29=>?_;refine Q.bindO (Z13_eq _ _ _ _ _ _) fun x30=>?_;all_goals exact hj20 _
   all_goals exact hj20 _
  rw [dL (by omega),Z10_q14];refine QF hlt ?_;exact hend n14 s91_15 y16_id19_3
def Z10_q (a0:TDoc) (a1:TDoc):Option (Sl Z2):=Option.bind (Z10_q56 a1 a0.FDefs.l (Z0.mk ([]:Bs) (Sl.nil:Sl Z2))) fun y58_id19_3=>on (y58_id19_3) fun y6_id19_3=>Option.bind (Z10_q33 a1 a0.FDefs.l y6_id19_3) fun y35_id19_3=>on (y35_id19_3) fun y8_id19_3=>Option.bind (Z10_q14 a0 a1.FDefs.l y8_id19_3) fun y16_id19_3=>on (y16_id19_3) fun y10_id19_3=>some y10_id19_3.Fout
theorem Z10_eq (a0:TDoc) (a1:TDoc):Z10 a0 a1=Z10_q a0 a1:=by
 unfold Z10 Z10_q;refine Qs ?_;refine Q.wrapOO fun Kb56 hKb56=>?_;refine Z10_l56_qe  Kb56 ?_ _ _ _ ⟨Nat.succ_pos _,by omega⟩;intro n56 s23_57 y58_id19_3;refine Qe (hKb56 _) ?_;refine Q.wrapPO fun Kj5 hKj5=>?_;have hj5:∀(y6_id19_3:Z0),Z10_j5 a0 a1 y6_id19_3=Kj5 y6_id19_3:=by
  intro y6_id19_3;refine Qe (hKj5 _) ?_;unfold Z10_j5;refine Q.wrapOO fun Kb33 hKb33=>?_;refine Z10_l33_qe  Kb33 ?_ _ _ _ ⟨Nat.succ_pos _,by omega⟩;intro n33 s50_34 y35_id19_3;refine Qe (hKb33 _) ?_;refine Q.wrapPO fun Kj7 hKj7=>?_;have hj7:∀(y8_id19_3:Z0),Z10_j7 a0 a1 y8_id19_3=Kj7 y8_id19_3:=by
   intro y8_id19_3;refine Qe (hKj7 _) ?_;unfold Z10_j7;refine Q.wrapOO fun Kb14 hKb14=>?_;refine Z10_l14_qe  Kb14 ?_ _ _ _ ⟨Nat.succ_pos _,by omega⟩;intro n14 s91_15 y16_id19_3;refine Qe (hKb14 _) ?_;refine Q.wrapPO fun Kj9 hKj9=>?_;have hj9:∀(y10_id19_3:Z0),Z10_j9  y10_id19_3=Kj9 y10_id19_3:=by
    intro y10_id19_3;refine Qe (hKj9 _) ?_;unfold Z10_j9;all_goals rfl
   all_goals exact hj9 _
  all_goals exact hj7 _
 all_goals exact hj5 _
def Z29_q (a0:Bs) (a1:Bs):Option Bool:=guardO ((decide (((a1.length:Nat):Int)<=((a0.length:Nat):Int)))) (subC ((a0.length:Nat):Int) ((a1.length:Nat):Int)) (0:Int) fun x5=>guardO ((decide (((a1.length:Nat):Int)<=((a0.length:Nat):Int)))) (cutC a0 (some x5) none) ([]:Bs) fun x6=>some ((decide (((a1.length:Nat):Int)<=((a0.length:Nat):Int)))&&((x6==a1)))
theorem Z29_eq (a0:Bs) (a1:Bs):Z29 a0 a1=Z29_q a0 a1:=by
 unfold Z29 Z29_q;refine Qs ?_;refine Q.guardOO rfl fun x5=>?_;refine Q.guardOO rfl fun x6=>?_;all_goals rfl
def Z118_q (a0:Bs) (a1:Bs):Option Bool:=(Z29_q a0 a1).bind fun x3=>some x3
theorem Z118_eq (a0:Bs) (a1:Bs):Z118 a0 a1=Z118_q a0 a1:=by
 unfold Z118 Z118_q;refine Qs ?_;refine Q.bindO (Z29_eq _ _) fun x3=>?_;all_goals rfl
def Z137_q (a0:Bs):Option (TRef×Int):=Z137 a0
theorem Z137_eq (a0:Bs):Z137 a0=Z137_q a0:=rfl
def Z101_q (a0:(Sl Int)):Option (Sl Int):=bif a0.nl then(some (Sl.nil:Sl Int)) else((appC 8 (⟨false,[]⟩:Sl Int) a0).bind fun x7=>some x7)
theorem Z101_eq (a0:(Sl Int)):Z101 a0=Z101_q a0:=by
 unfold Z101 Z101_q;refine Qs ?_;refine Q.condO ?_ ?_
 ·all_goals rfl
 refine Q.bindO rfl fun x7=>?_;all_goals rfl
def Z142_q (a0:(Sl Int)):Option (Sl Int):=(Z101_q a0).bind fun x3=>(some (delL Z143 x3)).bind fun x4=>some x4
theorem Z142_eq (a0:(Sl Int)):Z142 a0=Z142_q a0:=by
 unfold Z142 Z142_q;refine Qs ?_;refine Q.bindO (Z101_eq _) fun x3=>?_;refine Q.bindO rfl fun x4=>?_;all_goals rfl
def Z140_q (a0:TRef) (a1:TRef):Option Bool:=guardO (((a0.FName==a1.FName))) (Z142_q a0.FWraps) (Sl.nil:Sl Int) fun x3=>guardO (((a0.FName==a1.FName))) (Z142_q a1.FWraps) (Sl.nil:Sl Int) fun x4=>guardO (((a0.FName==a1.FName))) (Z106_q x3 x4) false fun x5=>some (((a0.FName==a1.FName))&&x5)
theorem Z140_eq (a0:TRef) (a1:TRef):Z140 a0 a1=Z140_q a0 a1:=by
 unfold Z140 Z140_q;refine Qs ?_;refine Q.guardOO (Z142_eq _) fun x3=>?_;refine Q.guardOO (Z142_eq _) fun x4=>?_;refine Q.guardOO (Z106_eq _ _) fun x5=>?_;all_goals rfl
def Z135_q (a0:TRef):Bool:=on (bif (decide ((0:Int)<((a0.FWraps.l.length:Nat):Int))) then((a0.FWraps.l)[0]?.getD (0:Int)) else(0:Int)) fun x4=>((decide ((0:Int)<((a0.FWraps.l.length:Nat):Int)))&&(decide (x4=(1:Int))))
theorem Z135_eq (a0:TRef):Z135 a0=some (Z135_q a0):=by
 unfold Z135 Z135_q;refine Q.guardT (fun hc=>Q.getD_some (by simp at hc; omega)) fun x4 hx_x4=>?_;all_goals rfl
def Z136_q (a0:TRef):Option TRef:=on (Z135_q a0) fun x8=>Option.bind (bif x8 then((partC a0.FWraps (some (1:Int)) none).bind fun x10=>some x10) else(some a0.FWraps)) fun s3_4=>(Z101_q s3_4).bind fun x6=>some (TRef.mk a0.FName x6)
theorem Z136_eq (a0:TRef):Z136 a0=Z136_q a0:=by
 unfold Z136 Z136_q;refine Qs ?_;refine Q.bindPO (Z135_eq _) fun x8 hx_x8=>?_;refine Q.wrapOO fun Kj3 hKj3=>?_;have hj3:∀(s3_4:(Sl Int)),Z136_j3 a0 s3_4=Kj3 s3_4:=by
  intro s3_4;refine Qe (hKj3 _) ?_;unfold Z136_j3;refine Q.bindO (Z101_eq _) fun x6=>?_;all_goals rfl
 refine Q.condO ?_ ?_
 ·refine Q.bindO rfl fun x10=>?_;all_goals exact hj3 _
 all_goals exact hj3 _
def Z134_q (a0:TRef):Option Bool:=(Z136_q a0).bind fun x3=>on (bif (decide ((0:Int)<((x3.FWraps.l.length:Nat):Int))) then((x3.FWraps.l)[0]?.getD (0:Int)) else(0:Int)) fun x6=>some ((decide ((0:Int)<((x3.FWraps.l.length:Nat):Int)))&&(decide (x6=(2:Int))))
theorem Z134_eq (a0:TRef):Z134 a0=Z134_q a0:=by
 unfold Z134 Z134_q;refine Qs ?_;refine Q.bindO (Z136_eq _) fun x3=>?_;refine Q.guardTO (fun hc=>Q.getD_some (by simp at hc; omega)) fun x6 hx_x6=>?_;all_goals rfl
def Z133_q (a0:TRef):Option (TRef×Bool):=(Z134_q a0).bind fun x4=>bif (!x4) then(some ((TRef.mk ([]:Bs) (Sl.nil:Sl Int)),false)) else((Z136_q a0).bind fun x8=>(partC x8.FWraps (some (1:Int)) none).bind fun x10=>some ((TRef.mk x8.FName x10),true))
theorem Z133_eq (a0:TRef):Z133 a0=Z133_q a0:=by
 unfold Z133 Z133_q;refine Qs ?_;refine Q.bindO (Z134_eq _) fun x4=>?_;refine Q.condO ?_ ?_
 ·all_goals rfl
 refine Q.bindO (Z136_eq _) fun x8=>?_;refine Q.bindO rfl fun x10=>?_;all_goals rfl
def Z141_q (a0:TRef) (a1:TRef):Option (TRef×Bool):=Z141 a0 a1
theorem Z141_eq (a0:TRef) (a1:TRef):Z141 a0 a1=Z141_q a0 a1:=rfl
def Z132_q (a0:TRef) (a1:TRef):Option Bool:=(Z141_q a0 a1).bind fun x3=>guardO (x3.2) (Z139_q x3.1 a1) false fun x5=>some (x3.2&&x5)
theorem Z132_eq (a0:TRef) (a1:TRef):Z132 a0 a1=Z132_q a0 a1:=by
 unfold Z132 Z132_q;refine Qs ?_;refine Q.bindO (Z141_eq _ _) fun x3=>?_;refine Q.guardOO (Z139_eq _ _) fun x5=>?_;all_goals rfl
def Z9_q (a0:Z2):Option Bool:=on (bif (decide (a0.FKind=(2:Int))) then((decide (a0.FKind=(2:Int)))) else(bif (decide (a0.FKind=(5:Int))) then((decide (a0.FKind=(5:Int)))) else(bif (decide (a0.FKind=(12:Int))) then((decide (a0.FKind=(12:Int)))) else((decide (a0.FKind=(18:Int))))))) fun s9_6=>bif s9_6 then(some true) else(on (bif (decide (a0.FKind=(8:Int))) then((decide (a0.FKind=(8:Int)))) else((decide (a0.FKind=(14:Int))))) fun s14_10=>bif s14_10 then((Z118_q a0.FTo ([33]:Bs)).bind fun x13=>guardO ((!x13)) (Z115_q a0.FTo ([32,61,32]:Bs)) false fun x14=>some ((!x13)&&(!x14))) else(on (bif (decide (a0.FKind=(9:Int))) then((decide (a0.FKind=(9:Int)))) else((decide (a0.FKind=(15:Int))))) fun s27_16=>bif s27_16 then((Z137_q a0.FFrom).bind fun x19=>(Z137_q a0.FTo).bind fun x21=>guardO (((decide (x19.2=(0:Int)))&&(decide (x21.2=(0:Int))))) (Z132_q x19.1 x21.1) false fun x23=>some (((decide (x19.2=(0:Int)))&&(decide (x21.2=(0:Int))))&&x23)) else(on (()) fun _=>some false)))
theorem Z9_eq (a0:Z2):Z9 a0=Z9_q a0:=by
 unfold Z9 Z9_q;refine Qs ?_;refine Q.wrapPO fun Kj5 hKj5=>?_;have hj5:∀(s9_6:Bool),Z9_j5 a0 s9_6=Kj5 s9_6:=by
  intro s9_6;refine Qe (hKj5 _) ?_;unfold Z9_j5;refine Q.condO ?_ ?_
  ·all_goals rfl
  refine Q.wrapPO fun Kj9 hKj9=>?_;have hj9:∀(s14_10:Bool),Z9_j9 a0 s14_10=Kj9 s14_10:=by
   intro s14_10;refine Qe (hKj9 _) ?_;unfold Z9_j9;refine Q.condO ?_ ?_
   ·refine Q.bindO (Z118_eq _ _) fun x13=>?_;refine Q.guardOO (Z115_eq _ _) fun x14=>?_;all_goals rfl
   refine Q.wrapPO fun Kj15 hKj15=>?_;have hj15:∀(s27_16:Bool),Z9_j15 a0 s27_16=Kj15 s27_16:=by
    intro s27_16;refine Qe (hKj15 _) ?_;unfold Z9_j15;refine Q.condO ?_ ?_
    ·refine Q.bindO (Z137_eq _) fun x19=>?_;refine Q.bindO (Z137_eq _) fun x21=>?_;refine Q.guardOO (Z132_eq _ _) fun x23=>?_;all_goals rfl
    refine Q.wrapPO fun Kj2 hKj2=>?_;have hj2:Z9_j2  =Kj2 ():=by
     refine Qe (hKj2 _) ?_;unfold Z9_j2;all_goals rfl
    all_goals exact hj2
   refine Q.condP ?_ ?_
   ·all_goals exact hj15 _
   all_goals exact hj15 _
  refine Q.condP ?_ ?_
  ·all_goals exact hj9 _
  all_goals exact hj9 _
 refine Q.condP ?_ ?_
 ·all_goals exact hj5 _
 refine Q.condP ?_ ?_
 ·all_goals exact hj5 _
 refine Q.condP ?_ ?_
 ·all_goals exact hj5 _
 all_goals exact hj5 _
def Z33_q5 (a1:(Sl Z5)):List Z5->Unit ⊕ Bool
 | []=>Sum.inl ()
 | h5::r5=>on (h5) fun x13=>on (Z99_q a1 x13.FName) fun x14=>bif (!x14.2) then(Sum.inr false) else(Z33_q5 a1 (r5) )
theorem Z33_l5_qe {a0:(Sl Z5)}{a1:(Sl Z5)}  (Kb5:(Unit ⊕ Bool)->Option Bool) (hend:∀(n5:Nat) (s5_6:Nat),Z33_j2   =Kb5 (Sum.inl ())) (hret:∀e:Bool,some e=Kb5 (Sum.inr e)):∀(n5:Nat) (s5_6:Nat),(0<n5/\a0.l.length<s5_6+n5)->Z33_l5 a0 a1 n5 s5_6=Kb5 (Z33_q5 a1 (a0.l.drop s5_6) ):=by
 intro n5;induction n5 with
 | zero=>intro s5_6 hn; exact absurd hn.1 (by omega)
 | succ n5 ih5 =>
  intro s5_6 hn;rw [Z33_l5];by_cases hlt:s5_6<a0.l.length
  ·obtain⟨h5,hh5⟩:=Qa hlt;rw [Q.drop_of hh5,Z33_q5];refine QT hlt ?_;refine Q.bindP hh5 fun x13 hx_x13=>?_;refine Q.bindP (Z99_eq _ _) fun x14 hx_x14=>?_;refine Q.condP ?_ ?_
   ·all_goals exact hret _
   all_goals exact ih5 _ ⟨by omega,by omega⟩
  rw [dL (by omega),Z33_q5];refine QF hlt ?_;exact hend n5 s5_6
def Z33_q (a0:(Sl Z5)) (a1:(Sl Z5)):Bool:=on (Z33_q5 a1 a0.l ) fun o5=>match o5 with|Sum.inl _=>(on (()) fun _=>true)|Sum.inr e5=>(e5)
theorem Z33_eq (a0:(Sl Z5)) (a1:(Sl Z5)):Z33 a0 a1=some (Z33_q a0 a1):=by
 unfold Z33 Z33_q;refine Q.wrapPP fun Kb5 hKb5=>?_;refine Z33_l5_qe  Kb5 ?_ ?_ _ _ ⟨Nat.succ_pos _,by omega⟩
 ·intro n5 s5_6;refine Qe (hKb5 _) ?_;try dsimp only
  refine Q.wrapPP fun Kj2 hKj2=>?_;have hj2:Z33_j2  =Kj2 ():=by
   refine Qe (hKj2 _) ?_;unfold Z33_j2;all_goals rfl
  all_goals exact hj2
 intro e5;refine Qe (hKb5 _) ?_;try dsimp only
 all_goals rfl
def Z35_q5 (a1:Bs):List Bs->Unit ⊕ Bool
 | []=>Sum.inl ()
 | h5::r5=>on (h5) fun x13=>bif ((x13==a1)) then(Sum.inr true) else(Z35_q5 a1 (r5) )
theorem Z35_l5_qe {a0:(Sl Bs)}{a1:Bs}  (Kb5:(Unit ⊕ Bool)->Option Bool) (hend:∀(n5:Nat) (s5_6:Nat),Z35_j2   =Kb5 (Sum.inl ())) (hret:∀e:Bool,some e=Kb5 (Sum.inr e)):∀(n5:Nat) (s5_6:Nat),(0<n5/\a0.l.length<s5_6+n5)->Z35_l5 a0 a1 n5 s5_6=Kb5 (Z35_q5 a1 (a0.l.drop s5_6) ):=by
 intro n5;induction n5 with
 | zero=>intro s5_6 hn; exact absurd hn.1 (by omega)
 | succ n5 ih5 =>
  intro s5_6 hn;rw [Z35_l5];by_cases hlt:s5_6<a0.l.length
  ·obtain⟨h5,hh5⟩:=Qa hlt;rw [Q.drop_of hh5,Z35_q5];refine QT hlt ?_;refine Q.bindP hh5 fun x13 hx_x13=>?_;refine Q.condP ?_ ?_
   ·all_goals exact hret _
   all_goals exact ih5 _ ⟨by omega,by omega⟩
  rw [dL (by omega),Z35_q5];refine QF hlt ?_;exact hend n5 s5_6
def Z35_q (a0:(Sl Bs)) (a1:Bs):Bool:=on (Z35_q5 a1 a0.l ) fun o5=>match o5 with|Sum.inl _=>(on (()) fun _=>false)|Sum.inr e5=>(e5)
theorem Z35_eq (a0:(Sl Bs)) (a1:Bs):Z35 a0 a1=some (Z35_q a0 a1):=by
 unfold Z35 Z35_q;refine Q.wrapPP fun Kb5 hKb5=>?_;refine Z35_l5_qe  Kb5 ?_ ?_ _ _ ⟨Nat.succ_pos _,by omega⟩
 ·intro n5 s5_6;refine Qe (hKb5 _) ?_;try dsimp only
  refine Q.wrapPP fun Kj2 hKj2=>?_;have hj2:Z35_j2  =Kj2 ():=by
   refine Qe (hKj2 _) ?_;unfold Z35_j2;all_goals rfl
  all_goals exact hj2
 intro e5;refine Qe (hKb5 _) ?_;try dsimp only
 all_goals rfl
def Z34_q46 (a1:TDef):List Z4->Option (Unit ⊕ Bool)
 | []=>some (Sum.inl ())
 | h46::r46=>on (h46) fun x54=>on (Z97_q a1 x54.FName) fun x55=>on (bif !(!x55.2) then h46 else Z4.zero) fun x57=>guardO (!(!x55.2)) (Z53_q x55.1.FType x57.FType) false fun x58=>on (bif !((!x55.2)||(!x58)) then h46 else Z4.zero) fun x59=>on (bif !((!x55.2)||(!x58)) then Z33_q x59.FArgs x55.1.FArgs else false) fun x60=>bif (((!x55.2)||(!x58))||(!x60)) then(some (Sum.inr false)) else(Z34_q46 a1 (r46) )
theorem Z34_l46_qe {a0:TDef}{a1:TDef}  (Kb46:(Unit ⊕ Bool)->Option Bool) (hend:∀(n46:Nat) (s5_47:Nat),Z34_j2 a0 a1  =Kb46 (Sum.inl ())) (hret:∀e:Bool,some e=Kb46 (Sum.inr e)):∀(n46:Nat) (s5_47:Nat),(0<n46/\a0.FFields.l.length<s5_47+n46)->Z34_l46 a0 a1 n46 s5_47=Option.bind (Z34_q46 a1 (a0.FFields.l.drop s5_47) ) Kb46:=by
 intro n46;induction n46 with
 | zero=>intro s5_47 hn; exact absurd hn.1 (by omega)
 | succ n46 ih46 =>
  intro s5_47 hn;rw [Z34_l46];by_cases hlt:s5_47<a0.FFields.l.length
  ·obtain⟨h46,hh46⟩:=Qa hlt;rw [Q.drop_of hh46,Z34_q46];refine QT hlt ?_;refine Q.bindPO hh46 fun x54 hx_x54=>?_;refine Q.bindPO (Z97_eq _ _) fun x55 hx_x55=>?_;refine Q.guardPO hh46 fun x57 hx_x57=>?_;refine Q.guardOO (Z53_eq _ _) fun x58=>?_;refine Q.guardPO hh46 fun x59 hx_x59=>?_;refine Q.guardPO (Z33_eq _ _) fun x60 hx_x60=>?_;refine Q.condO ?_ ?_
   ·all_goals exact hret _
   all_goals exact ih46 _ ⟨by omega,by omega⟩
  rw [dL (by omega),Z34_q46];refine QF hlt ?_;exact hend n46 s5_47
def Z34_q35 (h21:Z6):List Z6->Bool->Bool
 | [],s9_36=>s9_36
 | h35::r35,s9_36=>on (bif !s9_36 then h35 else Z6.zero) fun x43=>on (bif !s9_36 then h21 else Z6.zero) fun x44=>Z34_q35 h21 (r35) (s9_36||((x43.FName==x44.FName)))
theorem Z34_l35_qe {a0:TDef}{a1:TDef}{s8_22:Nat}{k_next_21:Nat->Option Bool}{h21:Z6}(hh21:a0.FMembers.l[s8_22]?=some h21) (Kb35:(Bool)->Option Bool) (hend:∀(n35:Nat) (s9_36:Bool) (s10_37:Nat),Z34_j29 s8_22 k_next_21 s9_36=Kb35 s9_36):∀(n35:Nat) (s9_36:Bool) (s10_37:Nat),(0<n35/\a1.FMembers.l.length<s10_37+n35)->Z34_l35 a0 a1 s8_22 k_next_21 n35 s9_36 s10_37=Kb35 (Z34_q35 h21 (a1.FMembers.l.drop s10_37) s9_36):=by
 intro n35;induction n35 with
 | zero=>intro s9_36 s10_37 hn; exact absurd hn.1 (by omega)
 | succ n35 ih35 =>
  intro s9_36 s10_37 hn;rw [Z34_l35];by_cases hlt:s10_37<a1.FMembers.l.length
  ·obtain⟨h35,hh35⟩:=Qa hlt;rw [Q.drop_of hh35,Z34_q35];refine QT hlt ?_;refine Q.guardP hh35 fun x43 hx_x43=>?_;refine Q.guardP hh21 fun x44 hx_x44=>?_;all_goals exact ih35 _ _ ⟨by omega,by omega⟩
  rw [dL (by omega),Z34_q35];refine QF hlt ?_;exact hend n35 s9_36 s10_37
def Z34_q21 (a1:TDef):List Z6->Unit ⊕ Bool
 | []=>Sum.inl ()
 | h21::r21=>on (Z34_q35 h21 a1.FMembers.l false) fun s9_36=>on (s9_36) fun s9_30=>bif (!s9_30) then(Sum.inr false) else(on (()) fun _=>Z34_q21 a1 (r21) )
theorem Z34_l21_qe {a0:TDef}{a1:TDef}  (Kb21:(Unit ⊕ Bool)->Option Bool) (hend:∀(n21:Nat) (s8_22:Nat),Z34_j3 a0 a1  =Kb21 (Sum.inl ())) (hret:∀e:Bool,some e=Kb21 (Sum.inr e)):∀(n21:Nat) (s8_22:Nat),(0<n21/\a0.FMembers.l.length<s8_22+n21)->Z34_l21 a0 a1 n21 s8_22=Kb21 (Z34_q21 a1 (a0.FMembers.l.drop s8_22) ):=by
 intro n21;induction n21 with
 | zero=>intro s8_22 hn; exact absurd hn.1 (by omega)
 | succ n21 ih21 =>
  intro s8_22 hn;rw [Z34_l21];by_cases hlt:s8_22<a0.FMembers.l.length
  ·obtain⟨h21,hh21⟩:=Qa hlt;rw [Q.drop_of hh21,Z34_q21];refine QT hlt ?_;refine Q.wrapPP fun Kb35 hKb35=>?_;refine Z34_l35_qe hh21 Kb35 ?_ _ _ _ ⟨Nat.succ_pos _,by omega⟩;intro n35 s9_36 s10_37;refine Qe (hKb35 _) ?_;refine Q.wrapPP fun Kj29 hKj29=>?_;have hj29:∀(s9_30:Bool),Z34_j29 s8_22 (Z34_l21 a0 a1 n21) s9_30=Kj29 s9_30:=by
    intro s9_30;refine Qe (hKj29 _) ?_;unfold Z34_j29;refine Q.condP ?_ ?_
    ·all_goals exact hret _
    refine Q.wrapPP fun Kj27 hKj27=>?_;have hj27:Z34_j27 s8_22 (Z34_l21 a0 a1 n21) =Kj27 ():=by
     refine Qe (hKj27 _) ?_;unfold Z34_j27;all_goals exact ih21 _ ⟨by omega,by omega⟩
    all_goals exact hj27
   all_goals exact hj29 _
  rw [dL (by omega),Z34_q21];refine QF hlt ?_;exact hend n21 s8_22
def Z34_q8 (a1:TDef):List Bs->Unit ⊕ Bool
 | []=>Sum.inl ()
 | h8::r8=>on (h8) fun x16=>on (Z35_q a1.FImplements x16) fun x17=>bif (!x17) then(Sum.inr false) else(Z34_q8 a1 (r8) )
theorem Z34_l8_qe {a0:TDef}{a1:TDef}  (Kb8:(Unit ⊕ Bool)->Option Bool) (hend:∀(n8:Nat) (s11_9:Nat),Z34_j4 a0 a1  =Kb8 (Sum.inl ())) (hret:∀e:Bool,some e=Kb8 (Sum.inr e)):∀(n8:Nat) (s11_9:Nat),(0<n8/\a0.FImplements.l.length<s11_9+n8)->Z34_l8 a0 a1 n8 s11_9=Kb8 (Z34_q8 a1 (a0.FImplements.l.drop s11_9) ):=by
 intro n8;induction n8 with
 | zero=>intro s11_9 hn; exact absurd hn.1 (by omega)
 | succ n8 ih8 =>
  intro s11_9 hn;rw [Z34_l8];by_cases hlt:s11_9<a0.FImplements.l.length
  ·obtain⟨h8,hh8⟩:=Qa hlt;rw [Q.drop_of hh8,Z34_q8];refine QT hlt ?_;refine Q.bindP hh8 fun x16 hx_x16=>?_;refine Q.bindP (Z35_eq _ _) fun x17 hx_x17=>?_;refine Q.condP ?_ ?_
   ·all_goals exact hret _
   all_goals exact ih8 _ ⟨by omega,by omega⟩
  rw [dL (by omega),Z34_q8];refine QF hlt ?_;exact hend n8 s11_9
def Z34_q (a0:TDef) (a1:TDef):Option Bool:=Option.bind (Z34_q46 a1 a0.FFields.l ) fun o46=>match o46 with|Sum.inl _=>(on (()) fun _=>on (Z34_q21 a1 a0.FMembers.l ) fun o21=>match o21 with|Sum.inl _=>(on (()) fun _=>on (Z34_q8 a1 a0.FImplements.l ) fun o8=>match o8 with|Sum.inl _=>(on (()) fun _=>on (bif (decide (a0.FKind=a1.FKind)) then Z33_q a0.FInputs a1.FInputs else false) fun x6=>some ((decide (a0.FKind=a1.FKind))&&x6))|Sum.inr e8=>(some e8))|Sum.inr e21=>(some e21))|Sum.inr e46=>(some e46)
theorem Z34_eq (a0:TDef) (a1:TDef):Z34 a0 a1=Z34_q a0 a1:=by
 unfold Z34 Z34_q;refine Qs ?_;refine Q.wrapOO fun Kb46 hKb46=>?_;refine Z34_l46_qe  Kb46 ?_ ?_ _ _ ⟨Nat.succ_pos _,by omega⟩
 ·intro n46 s5_47;refine Qe (hKb46 _) ?_;try dsimp only
  refine Q.wrapPO fun Kj2 hKj2=>?_;have hj2:Z34_j2 a0 a1 =Kj2 ():=by
   refine Qe (hKj2 _) ?_;unfold Z34_j2;refine Q.wrapPO fun Kb21 hKb21=>?_;refine Z34_l21_qe  Kb21 ?_ ?_ _ _ ⟨Nat.succ_pos _,by omega⟩
   ·intro n21 s8_22;refine Qe (hKb21 _) ?_;try dsimp only
    refine Q.wrapPO fun Kj3 hKj3=>?_;have hj3:Z34_j3 a0 a1 =Kj3 ():=by
     refine Qe (hKj3 _) ?_;unfold Z34_j3;refine Q.wrapPO fun Kb8 hKb8=>?_;refine Z34_l8_qe  Kb8 ?_ ?_ _ _ ⟨Nat.succ_pos _,by omega⟩
     ·intro n8 s11_9;refine Qe (hKb8 _) ?_;try dsimp only
      refine Q.wrapPO fun Kj4 hKj4=>?_;have hj4:Z34_j4 a0 a1 =Kj4 ():=by
       refine Qe (hKj4 _) ?_;unfold Z34_j4;refine Q.guardPO (Z33_eq _ _) fun x6 hx_x6=>?_;all_goals rfl
      all_goals exact hj4
     intro e8;refine Qe (hKb8 _) ?_;try dsimp only
     all_goals rfl
    all_goals exact hj3
   intro e21;refine Qe (hKb21 _) ?_;try dsimp only
   all_goals rfl
  all_goals exact hj2
 intro e46;refine Qe (hKb46 _) ?_;try dsimp only
 all_goals rfl
end Go.Proofs

namespace Go.Proofs
open Go Go.Ab
def Z30_q32 :List Z2->Option (Unit ⊕ Bool)
 | []=>some (Sum.inl ())
 | h32::r32=>on (h32) fun x40=>(Z9_q x40).bind fun x41=>bif (!x41) then((Z31).bind fun x44=>some (Sum.inr x44)) else(Z30_q32  (r32) )
theorem Z30_l32_qe {a0:TDoc}{a1:TDoc}{x10:(Sl Z2)}  (Kb32:(Unit ⊕ Bool)->Option Bool) (hend:∀(n32:Nat) (s6_33:Nat),Z30_j11 a0 a1  =Kb32 (Sum.inl ())) (hret:∀e:Bool,some e=Kb32 (Sum.inr e)):∀(n32:Nat) (s6_33:Nat),(0<n32/\x10.l.length<s6_33+n32)->Z30_l32 a0 a1 x10 n32 s6_33=Option.bind (Z30_q32  (x10.l.drop s6_33) ) Kb32:=by
 intro n32;induction n32 with
 | zero=>intro s6_33 hn; exact absurd hn.1 (by omega)
 | succ n32 ih32 =>
  intro s6_33 hn;rw [Z30_l32];by_cases hlt:s6_33<x10.l.length
  ·obtain⟨h32,hh32⟩:=Qa hlt;rw [Q.drop_of hh32,Z30_q32];refine QT hlt ?_;refine Q.bindPO hh32 fun x40 hx_x40=>?_;refine Q.bindO (Z9_eq _) fun x41=>?_;refine Q.condO ?_ ?_
   ·refine Q.bindO rfl fun x44=>?_;all_goals exact hret _
   all_goals exact ih32 _ ⟨by omega,by omega⟩
  rw [dL (by omega),Z30_q32];refine QF hlt ?_;exact hend n32 s6_33
def Z30_q16 (a1:TDoc):List TDef->Option (Unit ⊕ Bool)
 | []=>some (Sum.inl ())
 | h16::r16=>on (h16) fun x24=>on (Z98_q a1 x24.FName) fun x25=>on (bif !(!x25.2) then h16 else TDef.zero) fun x27=>guardO (!(!x25.2)) (Z34_q x27 x25.1) false fun x28=>bif ((!x25.2)||(!x28)) then(some (Sum.inr false)) else(Z30_q16 a1 (r16) )
theorem Z30_l16_qe {a0:TDoc}{a1:TDoc}  (Kb16:(Unit ⊕ Bool)->Option Bool) (hend:∀(n16:Nat) (s7_17:Nat),Z30_j12   =Kb16 (Sum.inl ())) (hret:∀e:Bool,some e=Kb16 (Sum.inr e)):∀(n16:Nat) (s7_17:Nat),(0<n16/\a0.FDefs.l.length<s7_17+n16)->Z30_l16 a0 a1 n16 s7_17=Option.bind (Z30_q16 a1 (a0.FDefs.l.drop s7_17) ) Kb16:=by
 intro n16;induction n16 with
 | zero=>intro s7_17 hn; exact absurd hn.1 (by omega)
 | succ n16 ih16 =>
  intro s7_17 hn;rw [Z30_l16];by_cases hlt:s7_17<a0.FDefs.l.length
  ·obtain⟨h16,hh16⟩:=Qa hlt;rw [Q.drop_of hh16,Z30_q16];refine QT hlt ?_;refine Q.bindPO hh16 fun x24 hx_x24=>?_;refine Q.bindPO (Z98_eq _ _) fun x25 hx_x25=>?_;refine Q.guardPO hh16 fun x27 hx_x27=>?_;refine Q.guardOO (Z34_eq _ _) fun x28=>?_;refine Q.condO ?_ ?_
   ·all_goals exact hret _
   all_goals exact ih16 _ ⟨by omega,by omega⟩
  rw [dL (by omega),Z30_q16];refine QF hlt ?_;exact hend n16 s7_17
def Z30_q (a0:TDoc) (a1:TDoc):Option Bool:=(Z32_q a0).bind fun x4=>guardO (!(!x4)) (Z32_q a1) false fun x5=>bif ((!x4)||(!x5)) then((Z31).bind fun x8=>some x8) else((Z10_q a0 a1).bind fun x10=>Option.bind (Z30_q32  x10.l ) fun o32=>match o32 with|Sum.inl _=>(on (()) fun _=>Option.bind (Z30_q16 a1 a0.FDefs.l ) fun o16=>match o16 with|Sum.inl _=>(on (()) fun _=>(Z31).bind fun x14=>some x14)|Sum.inr e16=>(some e16))|Sum.inr e32=>(some e32))
theorem Z30_eq (a0:TDoc) (a1:TDoc):Z30 a0 a1=Z30_q a0 a1:=by
 unfold Z30 Z30_q;refine Qs ?_;refine Q.bindO (Z32_eq _) fun x4=>?_;refine Q.guardOO (Z32_eq _) fun x5=>?_;refine Q.condO ?_ ?_
 ·refine Q.bindO rfl fun x8=>?_;all_goals rfl
 refine Q.bindO (Z10_eq _ _) fun x10=>?_;refine Q.wrapOO fun Kb32 hKb32=>?_;refine Z30_l32_qe  Kb32 ?_ ?_ _ _ ⟨Nat.succ_pos _,by omega⟩
 ·intro n32 s6_33;refine Qe (hKb32 _) ?_;try dsimp only
  refine Q.wrapPO fun Kj11 hKj11=>?_;have hj11:Z30_j11 a0 a1 =Kj11 ():=by
   refine Qe (hKj11 _) ?_;unfold Z30_j11;refine Q.wrapOO fun Kb16 hKb16=>?_;refine Z30_l16_qe  Kb16 ?_ ?_ _ _ ⟨Nat.succ_pos _,by omega⟩
   ·intro n16 s7_17;refine Qe (hKb16 _) ?_;try dsimp only
    refine Q.wrapPO fun Kj12 hKj12=>?_;have hj12:Z30_j12  =Kj12 ():=by
     refine Qe (hKj12 _) ?_;unfold Z30_j12;refine Q.bindO rfl fun x14=>?_;all_goals rfl
    all_goals exact hj12
   intro e16;refine Qe (hKb16 _) ?_;try dsimp only
   all_goals rfl
  all_goals exact hj11
 intro e32;refine Qe (hKb32 _) ?_;try dsimp only
 all_goals rfl
end Go.Proofs

namespace Go.Proofs
theorem fm_append {α β:Type}(f g:α->List β):∀l:List α,(l.flatMap fun y=>f y++g y).Perm (l.flatMap f++l.flatMap g)
 | []=>.nil
 | a::l=>by
  simp only [List.flatMap_cons,List.append_assoc];refine List.Perm.append_left _ ?_;refine((fm_append f g l).append_left _).trans ?_;rw [<- List.append_assoc,<- List.append_assoc];exact List.perm_append_comm.append_right _
theorem fm_swap {α β γ:Type}(f:α->β->List γ) (B:List β):∀A:List α,(A.flatMap fun x=>B.flatMap (f x)).Perm (B.flatMap fun y=>A.flatMap fun x=>f x y)
 | []=>by simp
 | a::A=>by
  simp only [List.flatMap_cons];exact((fm_swap f B A).append_left _).trans (fm_append _ _ B).symm
theorem fm_perm {α β:Type}(f g:α->List β):∀l:List α,(∀x∈l,(f x).Perm (g x))->(l.flatMap f).Perm (l.flatMap g)
 | [],_=>.nil
 | a::l,h=>by
  simp only [List.flatMap_cons];exact(h a (by simp)).append (fm_perm f g l fun x hx=>h x (by simp [hx]))
section
variable {α κ γ:Type} [BEq κ] [LawfulBEq κ]
def prs (key:α->κ) (w:α->α->List γ) (A B:List α):List γ:=A.flatMap fun x=>match B.find? (fun t=>key t==key x) with|some y=>w x y|none=>[]
def lon (key:α->κ) (g:α->List γ) (A B:List α):List γ:=A.flatMap fun x=>match B.find? (fun t=>key t==key x) with|some _=>[]|none=>g x
def dif (key:α->κ) (w:α->α->List γ) (g:α->List γ) (A B:List α):List γ:=A.flatMap fun x=>match B.find? (fun t=>key t==key x) with|some y=>w x y|none=>g x
def Dst (key:α->κ) (A:List α):Prop:=A.Pairwise fun x y=>key x≠key y
theorem fm_find (key:α->κ) (k:κ) (w:α->List γ):∀B:List α,Dst key B->(B.flatMap fun y=>bif key y==k then w y else [])=(match B.find? (fun t=>key t==k) with|some y=>w y|none=>[])
 | [],_=>rfl
 | b::B,h=>by
  obtain⟨h1,h2⟩:=List.pairwise_cons.mp h;rw [List.flatMap_cons,fm_find key k w B h2,List.find?_cons];cases hb:key b==k
  ·rfl
  ·have:B.find? (fun t=>key t==k)=none:=by
    rw [List.find?_eq_none];intro x hx e;exact h1 x hx ((eq_of_beq hb).trans (eq_of_beq e).symm)
   rw [this]; simp
theorem prs_perm {key:α->κ}{w w':α->α->List γ}{A B:List α}(hA:Dst key A) (hB:Dst key B) (h:∀x∈A,∀y∈B,key y=key x->(w x y).Perm (w' y x)):(prs key w A B).Perm (prs key w' B A):=by
 have e1:prs key w A B=A.flatMap fun x=>B.flatMap fun y=>bif key y==key x then w x y else []:=by
  unfold prs; congr 1; funext x; exact(fm_find key (key x) (w x) B hB).symm
 have e2:prs key w' B A=B.flatMap fun y=>A.flatMap fun x=>bif key x==key y then w' y x else []:=by
  unfold prs; congr 1; funext y; exact(fm_find key (key y) (w' y) A hA).symm
 rw [e1,e2];refine(fm_swap _ B A).trans (fm_perm _ _ B fun y hy=>fm_perm _ _ A fun x hx=>?_);cases hk:key y==key x
 ·rw [show (key x==key y)=false from by rw [beq_eq_false_iff_ne] at hk ⊢; exact fun e=>hk e.symm]; exact .nil
 ·rw [show (key x==key y)=true from beq_iff_eq.mpr (eq_of_beq hk).symm]; exact h x hx y hy (eq_of_beq hk)
omit [LawfulBEq κ] in
theorem dif_split (key:α->κ) (w:α->α->List γ) (g:α->List γ) (A B:List α):(dif key w g A B).Perm (prs key w A B++lon key g A B):=by
 refine .trans (.of_eq ?_) (fm_append _ _ A);unfold dif; congr 1; funext x;cases B.find? (fun t=>key t==key x)<;>simp
end
section
variable {α κ γ:Type} [BEq κ] [LawfulBEq κ]
omit [LawfulBEq κ] in
theorem dif_len1 {key:α->κ}{w:α->α->List γ}{g:α->List γ}{f e:α->Nat}{B:List α}:∀{A:List α},(∀x∈A,∀y∈B,(w x y).length<=f x+e y)->(∀x∈A,(g x).length<=f x) ->
  (dif key w g A B).length<=(A.map f).sum+(prs key (fun _ y=>List.replicate (e y) ()) A B).length
 | [],_,_=>by simp [dif]
 | x::A,hw,hg=>by
  have ih:=dif_len1 (key:=key) (w:=w) (g:=g) (f:=f) (e:=e) (B:=B) (A:=A) (fun x hx=>hw x (.tail _ hx)) (fun x hx=>hg x (.tail _ hx));unfold dif prs at ih ⊢;simp only [] at ih;simp only [List.flatMap_cons,List.length_append,List.map_cons,List.sum_cons];have h1:=hg x (.head _);cases hb:B.find? (fun t=>key t==key x) with
  | none=>simp only [List.length_nil]; omega
  | some y =>
   have h2:=hw x (.head _) y (List.mem_of_find?_eq_some hb);simp only [List.length_replicate]; omega
omit [LawfulBEq κ] in
theorem lon_len {key:α->κ}{n:α->List γ}{e:α->Nat}{A:List α}:∀{B:List α},(∀y∈B,(n y).length<=e y)->(lon key n B A).length+(prs key (fun y _=>List.replicate (e y) ()) B A).length<=(B.map e).sum
 | [],_=>by simp [lon,prs]
 | y::B,hn=>by
  have ih:=lon_len (key:=key) (n:=n) (e:=e) (A:=A) (B:=B) (fun x hx=>hn x (.tail _ hx));unfold lon prs at ih ⊢;simp only [] at ih;simp only [List.flatMap_cons,List.length_append,List.map_cons,List.sum_cons];have h1:=hn y (.head _);cases hb:A.find? (fun t=>key t==key y) with
  | none=>simp only [List.length_nil]; omega
  | some x=>simp only [List.length_replicate,List.length_nil]; omega
theorem dif_len {key:α->κ}{w:α->α->List γ}{g n:α->List γ}{f e:α->Nat}{A B:List α}(hA:Dst key A) (hB:Dst key B) (hw:∀x∈A,∀y∈B,(w x y).length<=f x+e y) (hg:∀x∈A,(g x).length<=f x) (hn:∀y∈B,(n y).length<=e y) :
  (dif key w g A B++lon key n B A).length<=(A.map f).sum+(B.map e).sum:=by
 have h1:=dif_len1 (key:=key) hw hg;have h2:=lon_len (key:=key) (A:=A) hn;have h3:=(prs_perm (key:=key) (w:=fun _ y=>List.replicate (e y) ()) (w':=fun y _=>List.replicate (e y) ()) hA hB (fun _ _ _ _ _=>.rfl)).length_eq;rw [List.length_append]; omega
end
end Go.Proofs
