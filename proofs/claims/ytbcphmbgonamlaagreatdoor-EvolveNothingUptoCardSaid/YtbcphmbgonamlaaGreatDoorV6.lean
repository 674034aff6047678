import Derived.Test.YtbcphmbgonamlaaGreatDoorV5
set_option maxRecDepth 100000
set_option maxHeartbeats 2000000
set_option linter.unusedVariables false
set_option linter.unusedSimpArgs false
namespace Go.Proofs
open Go Go.Ab
def Z41_q (a0:Int):Bool:=((((decide ((65:Int)<=a0))&&(decide (a0<=(90:Int))))||((decide ((97:Int)<=a0))&&(decide (a0<=(122:Int)))))||(decide (a0=(95:Int))))
theorem Z41_eq (a0:Int):Z41 a0=some (Z41_q a0):=by
 unfold Z41 Z41_q;all_goals rfl
def Z39_q (a0:Int):Bool:=((decide ((48:Int)<=a0))&&(decide (a0<=(57:Int))))
theorem Z39_eq (a0:Int):Z39 a0=some (Z39_q a0):=by
 unfold Z39 Z39_q;all_goals rfl
def Z37_q10 :List UInt8->Nat->Unit ⊕ Bool
 | [],s3_11=>Sum.inl ()
 | h10::r10,s3_11=>on (h10) fun x18=>on (Z41_q ((x18.toNat:Nat):Int)) fun x19=>on (bif ((!x19)&&!(decide (((s3_11:Nat):Int)=(0:Int)))) then h10 else(0:UInt8)) fun x20=>on (bif ((!x19)&&!(decide (((s3_11:Nat):Int)=(0:Int)))) then Z39_q ((x20.toNat:Nat):Int) else false) fun x21=>bif ((!x19)&&((decide (((s3_11:Nat):Int)=(0:Int)))||(!x21))) then(Sum.inr false) else(Z37_q10  (r10) (s3_11+1) )
theorem Z37_l10_qe {a0:Bs}  (Kb10:(Unit ⊕ Bool)->Option Bool) (hend:∀(n10:Nat) (s3_11:Nat),Z37_j7   =Kb10 (Sum.inl ())) (hret:∀e:Bool,some e=Kb10 (Sum.inr e)):∀(n10:Nat) (s3_11:Nat),(0<n10/\a0.length<s3_11+n10)->Z37_l10 a0 n10 s3_11=Kb10 (Z37_q10  (a0.drop s3_11) s3_11 ):=by
 intro n10;induction n10 with
 | zero=>intro s3_11 hn; exact absurd hn.1 (by omega)
 | succ n10 ih10 =>
  intro s3_11 hn;rw [Z37_l10];by_cases hlt:s3_11<a0.length
  ·obtain⟨h10,hh10⟩:=Qa hlt;rw [Q.drop_of hh10,Z37_q10];refine QT hlt ?_;refine Q.bindP hh10 fun x18 hx_x18=>?_;refine Q.bindP (Z41_eq _) fun x19 hx_x19=>?_;refine Q.guardP hh10 fun x20 hx_x20=>?_;refine Q.guardP (Z39_eq _) fun x21 hx_x21=>?_;refine Q.condP ?_ ?_
   ·all_goals exact hret _
   all_goals exact ih10 _ ⟨by omega,by omega⟩
  rw [dL (by omega),Z37_q10];refine QF hlt ?_;exact hend n10 s3_11
def Z37_q (a0:Bs):Bool:=bif ((decide (((a0.length:Nat):Int)<(1:Int)))||(decide ((64:Int)<((a0.length:Nat):Int)))) then(false) else(on (Z37_q10  a0 0 ) fun o10=>match o10 with|Sum.inl _=>(on (()) fun _=>true)|Sum.inr e10=>(e10))
theorem Z37_eq (a0:Bs):Z37 a0=some (Z37_q a0):=by
 unfold Z37 Z37_q;refine Q.condP ?_ ?_
 ·all_goals rfl
 refine Q.wrapPP fun Kb10 hKb10=>?_;refine Z37_l10_qe  Kb10 ?_ ?_ _ _ ⟨Nat.succ_pos _,by omega⟩
 ·intro n10 s3_11;refine Qe (hKb10 _) ?_;try dsimp only
  refine Q.wrapPP fun Kj7 hKj7=>?_;have hj7:Z37_j7  =Kj7 ():=by
   refine Qe (hKj7 _) ?_;unfold Z37_j7;all_goals rfl
  all_goals exact hj7
 intro e10;refine Qe (hKb10 _) ?_;try dsimp only
 all_goals rfl
def Z45_q7 (k_rec_160:Z12->Option Int):List Z12->Int->Option (Int)
 | [],s3_8=>some s3_8
 | h7::r7,s3_8=>on (h7) fun x15=>(k_rec_160 x15).bind fun x16=>(addC s3_8 x16).bind fun x17=>Z45_q7 k_rec_160 (r7) x17
theorem Z45_l7_qe {a0:Z12}{k_rec_160:Z12->Option Int}  (Kb7:(Int)->Option Int) (hend:∀(n7:Nat) (s3_8:Int) (s4_9:Nat),Z45_j3   s3_8=Kb7 s3_8):∀(n7:Nat) (s3_8:Int) (s4_9:Nat),(0<n7/\a0.FItems.l.length<s4_9+n7)->Z45_l7 a0 k_rec_160 n7 s3_8 s4_9=Option.bind (Z45_q7 k_rec_160 (a0.FItems.l.drop s4_9) s3_8) Kb7:=by
 intro n7;induction n7 with
 | zero=>intro s3_8 s4_9 hn; exact absurd hn.1 (by omega)
 | succ n7 ih7 =>
  intro s3_8 s4_9 hn;rw [Z45_l7];by_cases hlt:s4_9<a0.FItems.l.length
  ·obtain⟨h7,hh7⟩:=Qa hlt;rw [Q.drop_of hh7,Z45_q7];refine QT hlt ?_;refine Q.bindPO hh7 fun x15 hx_x15=>?_;refine Q.bindO rfl fun x16=>?_;refine Q.bindO rfl fun x17=>?_;all_goals exact ih7 _ _ ⟨by omega,by omega⟩
  rw [dL (by omega),Z45_q7];refine QF hlt ?_;exact hend n7 s3_8 s4_9
def Z45_qn:Nat->Z12->Option Int
 | 0,_=>none
 | n+1,a0=>Option.bind (Z45_q7 (Z45_qn n) a0.FItems.l (1:Int)) fun s3_8=>on (s3_8) fun s3_4=>some s3_4
theorem Z45_qall:∀n:Nat,Z45_n n=Z45_qn n:=by
 intro n;induction n with
 | zero=>exact(by funext a0; first|rfl|(rw [Z45_n,Z45_qn]))
 | succ n ih =>
  funext a0
  refine Qs ?_;rw [Z45_n,Z45_qn];try rw [ih]
  refine Q.wrapOO fun Kb7 hKb7=>?_;refine Z45_l7_qe  Kb7 ?_ _ _ _ ⟨Nat.succ_pos _,by omega⟩;intro n7 s3_8 s4_9;refine Qe (hKb7 _) ?_;refine Q.wrapPO fun Kj3 hKj3=>?_;have hj3:∀(s3_4:Int),Z45_j3  s3_4=Kj3 s3_4:=by
   intro s3_4;refine Qe (hKj3 _) ?_;unfold Z45_j3;all_goals rfl
  all_goals exact hj3 _
def Z45_q (a0:Z12):Option Int:=Z45_qn F0 a0
theorem Z45_eq (a0:Z12):Z45 a0=Z45_q a0:=by
 unfold Z45 Z45_q; rw [(Z45_qall F0)]
def Z42_q8 (k_rec_161:Z12->Option Int):List Z12->Int->Option (Int)
 | [],s3_9=>some s3_9
 | h8::r8,s3_9=>on (h8) fun x16=>(k_rec_161 x16).bind fun x17=>Z42_q8 k_rec_161 (r8) (if x17>s3_9 then x17 else s3_9)
theorem Z42_l8_qe {a0:Z12}{k_rec_161:Z12->Option Int}  (Kb8:(Int)->Option Int) (hend:∀(n8:Nat) (s3_9:Int) (s4_10:Nat),Z42_j3   s3_9=Kb8 s3_9):∀(n8:Nat) (s3_9:Int) (s4_10:Nat),(0<n8/\a0.FItems.l.length<s4_10+n8)->Z42_l8 a0 k_rec_161 n8 s3_9 s4_10=Option.bind (Z42_q8 k_rec_161 (a0.FItems.l.drop s4_10) s3_9) Kb8:=by
 intro n8;induction n8 with
 | zero=>intro s3_9 s4_10 hn; exact absurd hn.1 (by omega)
 | succ n8 ih8 =>
  intro s3_9 s4_10 hn;rw [Z42_l8];by_cases hlt:s4_10<a0.FItems.l.length
  ·obtain⟨h8,hh8⟩:=Qa hlt;rw [Q.drop_of hh8,Z42_q8];refine QT hlt ?_;refine Q.bindPO hh8 fun x16 hx_x16=>?_;refine Q.bindO rfl fun x17=>?_;all_goals exact ih8 _ _ ⟨by omega,by omega⟩
  rw [dL (by omega),Z42_q8];refine QF hlt ?_;exact hend n8 s3_9 s4_10
def Z42_qn:Nat->Z12->Option Int
 | 0,_=>none
 | n+1,a0=>Option.bind (Z42_q8 (Z42_qn n) a0.FItems.l (0:Int)) fun s3_9=>on (s3_9) fun s3_4=>(addC s3_4 (1:Int)).bind fun x6=>some x6
theorem Z42_qall:∀n:Nat,Z42_n n=Z42_qn n:=by
 intro n;induction n with
 | zero=>exact(by funext a0; first|rfl|(rw [Z42_n,Z42_qn]))
 | succ n ih =>
  funext a0
  refine Qs ?_;rw [Z42_n,Z42_qn];try rw [ih]
  refine Q.wrapOO fun Kb8 hKb8=>?_;refine Z42_l8_qe  Kb8 ?_ _ _ _ ⟨Nat.succ_pos _,by omega⟩;intro n8 s3_9 s4_10;refine Qe (hKb8 _) ?_;refine Q.wrapPO fun Kj3 hKj3=>?_;have hj3:∀(s3_4:Int),Z42_j3  s3_4=Kj3 s3_4:=by
   intro s3_4;refine Qe (hKj3 _) ?_;unfold Z42_j3;refine Q.bindO rfl fun x6=>?_;all_goals rfl
  all_goals exact hj3 _
def Z42_q (a0:Z12):Option Int:=Z42_qn F0 a0
theorem Z42_eq (a0:Z12):Z42 a0=Z42_q a0:=by
 unfold Z42 Z42_q; rw [(Z42_qall F0)]
def Z48_q13 (a0:(Sl Bs)) (h5:Bs):Nat->Nat->Option (Unit ⊕ Bool)
 | 0,s4_14=>some (Sum.inl ())
 | r13+1,s4_14=>on (h5) fun x20=>(a0.l[s4_14]?).bind fun x21=>bif ((x20==x21)) then(some (Sum.inr true)) else(Z48_q13 a0 h5 (r13) (s4_14+1) )
theorem Z48_l13_qe {a0:(Sl Bs)}{s3_6:Nat}{k_next_5:Nat->Option Bool}{h5:Bs}(hh5:a0.l[s3_6]?=some h5) (Kb13:(Unit ⊕ Bool)->Option Bool) (hend:∀(n13:Nat) (s4_14:Nat),Z48_j11 s3_6 k_next_5 =Kb13 (Sum.inl ())) (hret:∀e:Bool,some e=Kb13 (Sum.inr e)):∀(n13:Nat) (s4_14:Nat),(0<n13/\s3_6<s4_14+n13)->Z48_l13 a0 s3_6 k_next_5 n13 s4_14=Option.bind (Z48_q13 a0 h5 (s3_6-s4_14) s4_14 ) Kb13:=by
 intro n13;induction n13 with
 | zero=>intro s4_14 hn; exact absurd hn.1 (by omega)
 | succ n13 ih13 =>
  intro s4_14 hn;rw [Z48_l13];by_cases hlt:s4_14<s3_6
  ·rw [show s3_6-s4_14=(s3_6-(s4_14+1))+1 by omega,Z48_q13];refine QT hlt ?_;refine Q.bindPO hh5 fun x20 hx_x20=>?_;refine Q.bindO rfl fun x21=>?_;refine Q.condO ?_ ?_
   ·all_goals exact hret _
   all_goals exact ih13 _ ⟨by omega,by omega⟩
  rw [show s3_6-s4_14=0 by omega,Z48_q13];refine QF hlt ?_;exact hend n13 s4_14
def Z48_q5 (a0:(Sl Bs)):List Bs->Nat->Option (Unit ⊕ Bool)
 | [],s3_6=>some (Sum.inl ())
 | h5::r5,s3_6=>Option.bind (Z48_q13 a0 h5 s3_6 0 ) fun o13=>match o13 with|Sum.inl _=>(on (()) fun _=>Z48_q5 a0 (r5) (s3_6+1) )|Sum.inr e13=>(some (Sum.inr e13))
theorem Z48_l5_qe {a0:(Sl Bs)}  (Kb5:(Unit ⊕ Bool)->Option Bool) (hend:∀(n5:Nat) (s3_6:Nat),Z48_j2   =Kb5 (Sum.inl ())) (hret:∀e:Bool,some e=Kb5 (Sum.inr e)):∀(n5:Nat) (s3_6:Nat),(0<n5/\a0.l.length<s3_6+n5)->Z48_l5 a0 n5 s3_6=Option.bind (Z48_q5 a0 (a0.l.drop s3_6) s3_6 ) Kb5:=by
 intro n5;induction n5 with
 | zero=>intro s3_6 hn; exact absurd hn.1 (by omega)
 | succ n5 ih5 =>
  intro s3_6 hn;rw [Z48_l5];by_cases hlt:s3_6<a0.l.length
  ·obtain⟨h5,hh5⟩:=Qa hlt;rw [Q.drop_of hh5,Z48_q5];refine QT hlt ?_;refine Q.wrapOO fun Kb13 hKb13=>?_;refine Z48_l13_qe hh5 Kb13 ?_ ?_ _ _ ⟨Nat.succ_pos _,by omega⟩
   ·intro n13 s4_14;refine Qe (hKb13 _) ?_;try dsimp only
    refine Q.wrapPO fun Kj11 hKj11=>?_;have hj11:Z48_j11 s3_6 (Z48_l5 a0 n5) =Kj11 ():=by
     refine Qe (hKj11 _) ?_;unfold Z48_j11;all_goals exact ih5 _ ⟨by omega,by omega⟩
    all_goals exact hj11
   intro e13;refine Qe (hKb13 _) ?_;try dsimp only
   all_goals exact hret _
  rw [dL (by omega),Z48_q5];refine QF hlt ?_;exact hend n5 s3_6
def Z48_q (a0:(Sl Bs)):Option Bool:=Option.bind (Z48_q5 a0 a0.l 0 ) fun o5=>match o5 with|Sum.inl _=>(on (()) fun _=>some false)|Sum.inr e5=>(some e5)
theorem Z48_eq (a0:(Sl Bs)):Z48 a0=Z48_q a0:=by
 unfold Z48 Z48_q;refine Qs ?_;refine Q.wrapOO fun Kb5 hKb5=>?_;refine Z48_l5_qe  Kb5 ?_ ?_ _ _ ⟨Nat.succ_pos _,by omega⟩
 ·intro n5 s3_6;refine Qe (hKb5 _) ?_;try dsimp only
  refine Q.wrapPO fun Kj2 hKj2=>?_;have hj2:Z48_j2  =Kj2 ():=by
   refine Qe (hKj2 _) ?_;unfold Z48_j2;all_goals rfl
  all_goals exact hj2
 intro e5;refine Qe (hKb5 _) ?_;try dsimp only
 all_goals rfl
def Z47_q (a0:Z12) (a1:Bool):Option Bool:=bif (decide (a0.FKind=(0:Int))) then(some ((((decide (a0.FInt=(0:Int)))&&((a0.FText==([]:Bs))))&&(decide (((a0.FItems.l.length:Nat):Int)=(0:Int))))&&(decide (((a0.FKeys.l.length:Nat):Int)=(0:Int))))) else(bif (decide (a0.FKind=(1:Int))) then(some (((((decide (a0.FInt=(0:Int)))||(decide (a0.FInt=(1:Int))))&&((a0.FText==([]:Bs))))&&(decide (((a0.FItems.l.length:Nat):Int)=(0:Int))))&&(decide (((a0.FKeys.l.length:Nat):Int)=(0:Int))))) else(bif (decide (a0.FKind=(2:Int))) then(some ((((a0.FText==([]:Bs)))&&(decide (((a0.FItems.l.length:Nat):Int)=(0:Int))))&&(decide (((a0.FKeys.l.length:Nat):Int)=(0:Int))))) else(bif (decide (a0.FKind=(3:Int))) then(some (((decide (a0.FInt=(0:Int)))&&(decide (((a0.FItems.l.length:Nat):Int)=(0:Int))))&&(decide (((a0.FKeys.l.length:Nat):Int)=(0:Int))))) else(bif (decide (a0.FKind=(4:Int))) then(on (bif (((decide (a0.FInt=(0:Int)))&&(decide (((a0.FItems.l.length:Nat):Int)=(0:Int))))&&(decide (((a0.FKeys.l.length:Nat):Int)=(0:Int)))) then Z37_q a0.FText else false) fun x19=>some (((((((decide (a0.FInt=(0:Int)))&&(decide (((a0.FItems.l.length:Nat):Int)=(0:Int))))&&(decide (((a0.FKeys.l.length:Nat):Int)=(0:Int))))&&x19)&&(!(a0.FText==([116,114,117,101]:Bs))))&&(!(a0.FText==([102,97,108,115,101]:Bs))))&&(!(a0.FText==([110,117,108,108]:Bs))))) else(bif (decide (a0.FKind=(5:Int))) then(some (((decide (a0.FInt=(0:Int)))&&((a0.FText==([]:Bs))))&&(decide (((a0.FKeys.l.length:Nat):Int)=(0:Int))))) else(bif (decide (a0.FKind=(6:Int))) then(guardO ((((decide (a0.FInt=(0:Int)))&&((a0.FText==([]:Bs))))&&(decide (((a0.FKeys.l.length:Nat):Int)=((a0.FItems.l.length:Nat):Int))))) (Z48_q a0.FKeys) false fun x26=>some ((((decide (a0.FInt=(0:Int)))&&((a0.FText==([]:Bs))))&&(decide (((a0.FKeys.l.length:Nat):Int)=((a0.FItems.l.length:Nat):Int))))&&(!x26))) else(bif (decide (a0.FKind=(7:Int))) then(on (bif (((a1&&(decide (a0.FInt=(0:Int))))&&(decide (((a0.FItems.l.length:Nat):Int)=(0:Int))))&&(decide (((a0.FKeys.l.length:Nat):Int)=(0:Int)))) then Z37_q a0.FText else false) fun x30=>some ((((a1&&(decide (a0.FInt=(0:Int))))&&(decide (((a0.FItems.l.length:Nat):Int)=(0:Int))))&&(decide (((a0.FKeys.l.length:Nat):Int)=(0:Int))))&&x30)) else(some false))))))))
theorem Z47_eq (a0:Z12) (a1:Bool):Z47 a0 a1=Z47_q a0 a1:=by
 unfold Z47 Z47_q;refine Qs ?_;refine Q.condO ?_ ?_
 ·all_goals rfl
 refine Q.condO ?_ ?_
 ·all_goals rfl
 refine Q.condO ?_ ?_
 ·all_goals rfl
 refine Q.condO ?_ ?_
 ·all_goals rfl
 refine Q.condO ?_ ?_
 ·refine Q.guardPO (Z37_eq _) fun x19 hx_x19=>?_;all_goals rfl
 refine Q.condO ?_ ?_
 ·all_goals rfl
 refine Q.condO ?_ ?_
 ·refine Q.guardOO (Z48_eq _) fun x26=>?_;all_goals rfl
 refine Q.condO ?_ ?_
 ·refine Q.guardPO (Z37_eq _) fun x30 hx_x30=>?_;all_goals rfl
 all_goals rfl
def Z49_q24 (a1:Bool):List Bs->Unit ⊕ Bool
 | []=>Sum.inl ()
 | h24::r24=>on (bif a1 then h24 else([]:Bs)) fun x32=>on (bif a1 then Z37_q x32 else false) fun x33=>bif (a1&&(!x33)) then(Sum.inr false) else(Z49_q24 a1 (r24) )
theorem Z49_l24_qe {a0:Z12}{a1:Bool}{k_rec_162:Z12->Bool->Option Bool}  (Kb24:(Unit ⊕ Bool)->Option Bool) (hend:∀(n24:Nat) (s5_25:Nat),Z49_j7 a0 a1 k_rec_162 =Kb24 (Sum.inl ())) (hret:∀e:Bool,some e=Kb24 (Sum.inr e)):∀(n24:Nat) (s5_25:Nat),(0<n24/\a0.FKeys.l.length<s5_25+n24)->Z49_l24 a0 a1 k_rec_162 n24 s5_25=Kb24 (Z49_q24 a1 (a0.FKeys.l.drop s5_25) ):=by
 intro n24;induction n24 with
 | zero=>intro s5_25 hn; exact absurd hn.1 (by omega)
 | succ n24 ih24 =>
  intro s5_25 hn;rw [Z49_l24];by_cases hlt:s5_25<a0.FKeys.l.length
  ·obtain⟨h24,hh24⟩:=Qa hlt;rw [Q.drop_of hh24,Z49_q24];refine QT hlt ?_;refine Q.guardP hh24 fun x32 hx_x32=>?_;refine Q.guardP (Z37_eq _) fun x33 hx_x33=>?_;refine Q.condP ?_ ?_
   ·all_goals exact hret _
   all_goals exact ih24 _ ⟨by omega,by omega⟩
  rw [dL (by omega),Z49_q24];refine QF hlt ?_;exact hend n24 s5_25
def Z49_q11 (a1:Bool) (k_rec_162:Z12->Bool->Option Bool):List Z12->Option (Unit ⊕ Bool)
 | []=>some (Sum.inl ())
 | h11::r11=>on (h11) fun x19=>(k_rec_162 x19 a1).bind fun x20=>bif (!x20) then(some (Sum.inr false)) else(Z49_q11 a1 k_rec_162 (r11) )
theorem Z49_l11_qe {a0:Z12}{a1:Bool}{k_rec_162:Z12->Bool->Option Bool}  (Kb11:(Unit ⊕ Bool)->Option Bool) (hend:∀(n11:Nat) (s6_12:Nat),Z49_j8   =Kb11 (Sum.inl ())) (hret:∀e:Bool,some e=Kb11 (Sum.inr e)):∀(n11:Nat) (s6_12:Nat),(0<n11/\a0.FItems.l.length<s6_12+n11)->Z49_l11 a0 a1 k_rec_162 n11 s6_12=Option.bind (Z49_q11 a1 k_rec_162 (a0.FItems.l.drop s6_12) ) Kb11:=by
 intro n11;induction n11 with
 | zero=>intro s6_12 hn; exact absurd hn.1 (by omega)
 | succ n11 ih11 =>
  intro s6_12 hn;rw [Z49_l11];by_cases hlt:s6_12<a0.FItems.l.length
  ·obtain⟨h11,hh11⟩:=Qa hlt;rw [Q.drop_of hh11,Z49_q11];refine QT hlt ?_;refine Q.bindPO hh11 fun x19 hx_x19=>?_;refine Q.bindO rfl fun x20=>?_;refine Q.condO ?_ ?_
   ·all_goals exact hret _
   all_goals exact ih11 _ ⟨by omega,by omega⟩
  rw [dL (by omega),Z49_q11];refine QF hlt ?_;exact hend n11 s6_12
def Z49_qn:Nat->Z12->Bool->Option Bool
 | 0,_,_=>none
 | n+1,a0,a1=>(Z47_q a0 a1).bind fun x4=>bif (!x4) then(some false) else(on (Z49_q24 a1 a0.FKeys.l ) fun o24=>match o24 with|Sum.inl _=>(on (()) fun _=>Option.bind (Z49_q11 a1 (Z49_qn n) a0.FItems.l ) fun o11=>match o11 with|Sum.inl _=>(on (()) fun _=>some true)|Sum.inr e11=>(some e11))|Sum.inr e24=>(some e24))
theorem Z49_qall:∀n:Nat,Z49_n n=Z49_qn n:=by
 intro n;induction n with
 | zero=>exact(by funext a0 a1; first|rfl|(rw [Z49_n,Z49_qn]))
 | succ n ih =>
  funext a0 a1
  refine Qs ?_;rw [Z49_n,Z49_qn];try rw [ih]
  refine Q.bindO (Z47_eq _ _) fun x4=>?_;refine Q.condO ?_ ?_
  ·all_goals rfl
  refine Q.wrapPO fun Kb24 hKb24=>?_;refine Z49_l24_qe  Kb24 ?_ ?_ _ _ ⟨Nat.succ_pos _,by omega⟩
  ·intro n24 s5_25;refine Qe (hKb24 _) ?_;try dsimp only
   refine Q.wrapPO fun Kj7 hKj7=>?_;have hj7:Z49_j7 a0 a1 (Z49_qn n) =Kj7 ():=by
    refine Qe (hKj7 _) ?_;unfold Z49_j7;refine Q.wrapOO fun Kb11 hKb11=>?_;refine Z49_l11_qe  Kb11 ?_ ?_ _ _ ⟨Nat.succ_pos _,by omega⟩
    ·intro n11 s6_12;refine Qe (hKb11 _) ?_;try dsimp only
     refine Q.wrapPO fun Kj8 hKj8=>?_;have hj8:Z49_j8  =Kj8 ():=by
      refine Qe (hKj8 _) ?_;unfold Z49_j8;all_goals rfl
     all_goals exact hj8
    intro e11;refine Qe (hKb11 _) ?_;try dsimp only
    all_goals rfl
   all_goals exact hj7
  intro e24;refine Qe (hKb24 _) ?_;try dsimp only
  all_goals rfl
def Z49_q (a0:Z12) (a1:Bool):Option Bool:=Z49_qn F0 a0 a1
theorem Z49_eq (a0:Z12) (a1:Bool):Z49 a0 a1=Z49_q a0 a1:=by
 unfold Z49 Z49_q; rw [(Z49_qall F0)]
def Z44_q (a0:Z12):Option Bool:=(Z45_q a0).bind fun x3=>guardO ((decide (x3<=(4096:Int)))) (Z42_q a0) (0:Int) fun x4=>guardO (((decide (x3<=(4096:Int)))&&(decide (x4<=(24:Int))))) (Z49_q a0 true) false fun x5=>some (((decide (x3<=(4096:Int)))&&(decide (x4<=(24:Int))))&&x5)
theorem Z44_eq (a0:Z12):Z44 a0=Z44_q a0:=by
 unfold Z44 Z44_q;refine Qs ?_;refine Q.bindO (Z45_eq _) fun x3=>?_;refine Q.guardOO (Z42_eq _) fun x4=>?_;refine Q.guardOO (Z49_eq _ _) fun x5=>?_;all_goals rfl
def Z59_q5 (k_rec_157:Z12->Option Bool):List Z12->Option (Unit ⊕ Bool)
 | []=>some (Sum.inl ())
 | h5::r5=>on (h5) fun x13=>(k_rec_157 x13).bind fun x14=>bif (!x14) then(some (Sum.inr false)) else(Z59_q5 k_rec_157 (r5) )
theorem Z59_l5_qe {a0:Z12}{k_rec_157:Z12->Option Bool}  (Kb5:(Unit ⊕ Bool)->Option Bool) (hend:∀(n5:Nat) (s3_6:Nat),Z59_j2 a0  =Kb5 (Sum.inl ())) (hret:∀e:Bool,some e=Kb5 (Sum.inr e)):∀(n5:Nat) (s3_6:Nat),(0<n5/\a0.FItems.l.length<s3_6+n5)->Z59_l5 a0 k_rec_157 n5 s3_6=Option.bind (Z59_q5 k_rec_157 (a0.FItems.l.drop s3_6) ) Kb5:=by
 intro n5;induction n5 with
 | zero=>intro s3_6 hn; exact absurd hn.1 (by omega)
 | succ n5 ih5 =>
  intro s3_6 hn;rw [Z59_l5];by_cases hlt:s3_6<a0.FItems.l.length
  ·obtain⟨h5,hh5⟩:=Qa hlt;rw [Q.drop_of hh5,Z59_q5];refine QT hlt ?_;refine Q.bindPO hh5 fun x13 hx_x13=>?_;refine Q.bindO rfl fun x14=>?_;refine Q.condO ?_ ?_
   ·all_goals exact hret _
   all_goals exact ih5 _ ⟨by omega,by omega⟩
  rw [dL (by omega),Z59_q5];refine QF hlt ?_;exact hend n5 s3_6
def Z59_qn:Nat->Z12->Option Bool
 | 0,_=>none
 | n+1,a0=>Option.bind (Z59_q5 (Z59_qn n) a0.FItems.l ) fun o5=>match o5 with|Sum.inl _=>(on (()) fun _=>some (!decide (a0.FKind=(7:Int))))|Sum.inr e5=>(some e5)
theorem Z59_qall:∀n:Nat,Z59_n n=Z59_qn n:=by
 intro n;induction n with
 | zero=>exact(by funext a0; first|rfl|(rw [Z59_n,Z59_qn]))
 | succ n ih =>
  funext a0
  refine Qs ?_;rw [Z59_n,Z59_qn];try rw [ih]
  refine Q.wrapOO fun Kb5 hKb5=>?_;refine Z59_l5_qe  Kb5 ?_ ?_ _ _ ⟨Nat.succ_pos _,by omega⟩
  ·intro n5 s3_6;refine Qe (hKb5 _) ?_;try dsimp only
   refine Q.wrapPO fun Kj2 hKj2=>?_;have hj2:Z59_j2 a0 =Kj2 ():=by
    refine Qe (hKj2 _) ?_;unfold Z59_j2;all_goals rfl
   all_goals exact hj2
  intro e5;refine Qe (hKb5 _) ?_;try dsimp only
  all_goals rfl
def Z59_q (a0:Z12):Option Bool:=Z59_qn F0 a0
theorem Z59_eq (a0:Z12):Z59 a0=Z59_q a0:=by
 unfold Z59 Z59_q; rw [(Z59_qall F0)]
def Z61_q25 (h10:TDir):List TArg->Option (Unit ⊕ Bool)
 | []=>some (Sum.inl ())
 | h25::r25=>on (h10) fun x34=>on (h25) fun x35=>on (Z37_q x35.FName) fun x37=>guardO (!(!x37)) (Z44_q x35.FValue) false fun x38=>guardO (!((!x37)||(!x38))) (Z59_q x35.FValue) false fun x39=>bif (((!x37)||(!x38))||(!x39)) then(some (Sum.inr false)) else(Z61_q25 h10 (r25) )
theorem Z61_l25_qe {a0:(Sl TDir)}{s3_11:Nat}{k_next_10:Nat->Option Bool}{h10:TDir}(hh10:a0.l[s3_11]?=some h10) (Kb25:(Unit ⊕ Bool)->Option Bool) (hend:∀(n25:Nat) (s4_26:Nat),Z61_j16 s3_11 k_next_10 =Kb25 (Sum.inl ())) (hret:∀e:Bool,some e=Kb25 (Sum.inr e)):∀(n25:Nat) (s4_26:Nat),(0<n25/\h10.FArgs.l.length<s4_26+n25)->Z61_l25 a0 s3_11 k_next_10 n25 s4_26=Option.bind (Z61_q25 h10 (h10.FArgs.l.drop s4_26) ) Kb25:=by
 intro n25;induction n25 with
 | zero=>intro s4_26 hn; exact absurd hn.1 (by omega)
 | succ n25 ih25 =>
  intro s4_26 hn;rw [Z61_l25];refine Q.preB hh10 fun x29 hx_x29=>?_;subst hx_x29;by_cases hlt:s4_26<x29.FArgs.l.length
  ·obtain⟨h25,hh25⟩:=Qa hlt;rw [Q.drop_of hh25,Z61_q25];refine QT hlt ?_;refine Q.bindPO hh10 fun x34 hx_x34=>?_;refine Q.bindPO (by first|exact hh25|(simp only [hx_x34]; exact hh25)|(simp only [hx_x34] at hh25 ⊢; exact hh25)) fun x35 hx_x35=>?_;refine Q.bindPO (Z37_eq _) fun x37 hx_x37=>?_;refine Q.guardOO (Z44_eq _) fun x38=>?_;refine Q.guardOO (Z59_eq _) fun x39=>?_;refine Q.condO ?_ ?_
   ·all_goals exact hret _
   all_goals exact ih25 _ ⟨by omega,by omega⟩
  rw [dL (by omega),Z61_q25];refine QF hlt ?_;exact hend n25 s4_26
def Z61_q10 :List TDir->Option (Unit ⊕ Bool)
 | []=>some (Sum.inl ())
 | h10::r10=>on (h10) fun x19=>on (Z37_q x19.FName) fun x20=>on (bif !(!x20) then h10 else TDir.zero) fun x21=>bif ((!x20)||(decide ((16:Int)<((x21.FArgs.l.length:Nat):Int)))) then(some (Sum.inr false)) else(Option.bind (Z61_q25 h10 h10.FArgs.l ) fun o25=>match o25 with|Sum.inl _=>(on (()) fun _=>Z61_q10  (r10) )|Sum.inr e25=>(some (Sum.inr e25)))
theorem Z61_l10_qe {a0:(Sl TDir)}  (Kb10:(Unit ⊕ Bool)->Option Bool) (hend:∀(n10:Nat) (s3_11:Nat),Z61_j7   =Kb10 (Sum.inl ())) (hret:∀e:Bool,some e=Kb10 (Sum.inr e)):∀(n10:Nat) (s3_11:Nat),(0<n10/\a0.l.length<s3_11+n10)->Z61_l10 a0 n10 s3_11=Option.bind (Z61_q10  (a0.l.drop s3_11) ) Kb10:=by
 intro n10;induction n10 with
 | zero=>intro s3_11 hn; exact absurd hn.1 (by omega)
 | succ n10 ih10 =>
  intro s3_11 hn;rw [Z61_l10];by_cases hlt:s3_11<a0.l.length
  ·obtain⟨h10,hh10⟩:=Qa hlt;rw [Q.drop_of hh10,Z61_q10];refine QT hlt ?_;refine Q.bindPO hh10 fun x19 hx_x19=>?_;refine Q.bindPO (Z37_eq _) fun x20 hx_x20=>?_;refine Q.guardPO hh10 fun x21 hx_x21=>?_;refine Q.condO ?_ ?_
   ·all_goals exact hret _
   refine Q.wrapOO fun Kb25 hKb25=>?_;refine Z61_l25_qe hh10 Kb25 ?_ ?_ _ _ ⟨by rw [hh10]; exact Nat.succ_pos _,by rw [hh10]; simp only [Option.elim]; omega⟩
   ·intro n25 s4_26;refine Qe (hKb25 _) ?_;try dsimp only
    refine Q.wrapPO fun Kj16 hKj16=>?_;have hj16:Z61_j16 s3_11 (Z61_l10 a0 n10) =Kj16 ():=by
     refine Qe (hKj16 _) ?_;unfold Z61_j16;all_goals exact ih10 _ ⟨by omega,by omega⟩
    all_goals exact hj16
   intro e25;refine Qe (hKb25 _) ?_;try dsimp only
   all_goals exact hret _
  rw [dL (by omega),Z61_q10];refine QF hlt ?_;exact hend n10 s3_11
def Z61_q (a0:(Sl TDir)):Option Bool:=bif (decide ((16:Int)<((a0.l.length:Nat):Int))) then(some false) else(Option.bind (Z61_q10  a0.l ) fun o10=>match o10 with|Sum.inl _=>(on (()) fun _=>some true)|Sum.inr e10=>(some e10))
theorem Z61_eq (a0:(Sl TDir)):Z61 a0=Z61_q a0:=by
 unfold Z61 Z61_q;refine Qs ?_;refine Q.condO ?_ ?_
 ·all_goals rfl
 refine Q.wrapOO fun Kb10 hKb10=>?_;refine Z61_l10_qe  Kb10 ?_ ?_ _ _ ⟨Nat.succ_pos _,by omega⟩
 ·intro n10 s3_11;refine Qe (hKb10 _) ?_;try dsimp only
  refine Q.wrapPO fun Kj7 hKj7=>?_;have hj7:Z61_j7  =Kj7 ():=by
   refine Qe (hKj7 _) ?_;unfold Z61_j7;all_goals rfl
  all_goals exact hj7
 intro e10;refine Qe (hKb10 _) ?_;try dsimp only
 all_goals rfl
def Z54_q10 (a0:TRef):List Int->Nat->Option (Unit ⊕ Bool)
 | [],s3_11=>some (Sum.inl ())
 | h10::r10,s3_11=>on (h10) fun x19=>on (bif (!decide (x19=(1:Int))) then h10 else(0:Int)) fun x20=>bif ((!decide (x19=(1:Int)))&&(!decide (x20=(2:Int)))) then(some (Sum.inr false)) else(on (bif (decide ((0:Int)<((s3_11:Nat):Int))) then h10 else(0:Int)) fun x24=>guardO (((decide ((0:Int)<((s3_11:Nat):Int)))&&(decide (x24=(1:Int))))) (subC ((s3_11:Nat):Int) (1:Int)) (0:Int) fun x25=>guardO (((decide ((0:Int)<((s3_11:Nat):Int)))&&(decide (x24=(1:Int))))) (idxC a0.FWraps.l x25) (0:Int) fun x26=>bif (((decide ((0:Int)<((s3_11:Nat):Int)))&&(decide (x24=(1:Int))))&&(decide (x26=(1:Int)))) then(some (Sum.inr false)) else(Z54_q10 a0 (r10) (s3_11+1) ))
theorem Z54_l10_qe {a0:TRef}  (Kb10:(Unit ⊕ Bool)->Option Bool) (hend:∀(n10:Nat) (s3_11:Nat),Z54_j7   =Kb10 (Sum.inl ())) (hret:∀e:Bool,some e=Kb10 (Sum.inr e)):∀(n10:Nat) (s3_11:Nat),(0<n10/\a0.FWraps.l.length<s3_11+n10)->Z54_l10 a0 n10 s3_11=Option.bind (Z54_q10 a0 (a0.FWraps.l.drop s3_11) s3_11 ) Kb10:=by
 intro n10;induction n10 with
 | zero=>intro s3_11 hn; exact absurd hn.1 (by omega)
 | succ n10 ih10 =>
  intro s3_11 hn;rw [Z54_l10];by_cases hlt:s3_11<a0.FWraps.l.length
  ·obtain⟨h10,hh10⟩:=Qa hlt;rw [Q.drop_of hh10,Z54_q10];refine QT hlt ?_;refine Q.bindPO hh10 fun x19 hx_x19=>?_;refine Q.guardPO hh10 fun x20 hx_x20=>?_;refine Q.condO ?_ ?_
   ·all_goals exact hret _
   refine Q.guardPO hh10 fun x24 hx_x24=>?_;refine Q.guardOO rfl fun x25=>?_;refine Q.guardOO rfl fun x26=>?_;refine Q.condO ?_ ?_
   ·all_goals exact hret _
   all_goals exact ih10 _ ⟨by omega,by omega⟩
  rw [dL (by omega),Z54_q10];refine QF hlt ?_;exact hend n10 s3_11
def Z54_q (a0:TRef):Option Bool:=on (Z37_q a0.FName) fun x4=>bif ((!x4)||(decide ((24:Int)<((a0.FWraps.l.length:Nat):Int)))) then(some false) else(Option.bind (Z54_q10 a0 a0.FWraps.l 0 ) fun o10=>match o10 with|Sum.inl _=>(on (()) fun _=>some true)|Sum.inr e10=>(some e10))
theorem Z54_eq (a0:TRef):Z54 a0=Z54_q a0:=by
 unfold Z54 Z54_q;refine Qs ?_;refine Q.bindPO (Z37_eq _) fun x4 hx_x4=>?_;refine Q.condO ?_ ?_
 ·all_goals rfl
 refine Q.wrapOO fun Kb10 hKb10=>?_;refine Z54_l10_qe  Kb10 ?_ ?_ _ _ ⟨Nat.succ_pos _,by omega⟩
 ·intro n10 s3_11;refine Qe (hKb10 _) ?_;try dsimp only
  refine Q.wrapPO fun Kj7 hKj7=>?_;have hj7:Z54_j7  =Kj7 ():=by
   refine Qe (hKj7 _) ?_;unfold Z54_j7;all_goals rfl
  all_goals exact hj7
 intro e10;refine Qe (hKb10 _) ?_;try dsimp only
 all_goals rfl
def Z65_q (a0:Z12):Bool:=(((((decide (a0.FKind=(0:Int)))&&(decide (a0.FInt=(0:Int))))&&((a0.FText==([]:Bs))))&&(decide (((a0.FItems.l.length:Nat):Int)=(0:Int))))&&(decide (((a0.FKeys.l.length:Nat):Int)=(0:Int))))
theorem Z65_eq (a0:Z12):Z65 a0=some (Z65_q a0):=by
 unfold Z65 Z65_q;all_goals rfl
def Z63_q10 :List Z9->Option (Unit ⊕ Bool)
 | []=>some (Sum.inl ())
 | h10::r10=>on (h10) fun x18=>on (Z37_q x18.FName) fun x21=>guardO (!(!x21)) (Z54_q x18.FType) false fun x22=>guardO (!((!x21)||(!x22))) (Z61_q x18.FDirs) false fun x23=>bif (((!x21)||(!x22))||(!x23)) then(some (Sum.inr false)) else(guardO (x18.FHas) (Z44_q x18.FDefault) false fun x27=>guardO ((x18.FHas&&!(!x27))) (Z59_q x18.FDefault) false fun x28=>on (bif (!(x18.FHas&&((!x27)||(!x28)))&&(!x18.FHas)) then Z65_q x18.FDefault else false) fun x29=>bif ((x18.FHas&&((!x27)||(!x28)))||((!x18.FHas)&&(!x29))) then(some (Sum.inr false)) else(Z63_q10  (r10) ))
theorem Z63_l10_qe {a0:(Sl Z9)}  (Kb10:(Unit ⊕ Bool)->Option Bool) (hend:∀(n10:Nat) (s3_11:Nat),Z63_j7   =Kb10 (Sum.inl ())) (hret:∀e:Bool,some e=Kb10 (Sum.inr e)):∀(n10:Nat) (s3_11:Nat),(0<n10/\a0.l.length<s3_11+n10)->Z63_l10 a0 n10 s3_11=Option.bind (Z63_q10  (a0.l.drop s3_11) ) Kb10:=by
 intro n10;induction n10 with
 | zero=>intro s3_11 hn; exact absurd hn.1 (by omega)
 | succ n10 ih10 =>
  intro s3_11 hn;rw [Z63_l10];by_cases hlt:s3_11<a0.l.length
  ·obtain⟨h10,hh10⟩:=Qa hlt;rw [Q.drop_of hh10,Z63_q10];refine QT hlt ?_;refine Q.bindPO hh10 fun x18 hx_x18=>?_;refine Q.bindPO (Z37_eq _) fun x21 hx_x21=>?_;refine Q.guardOO (Z54_eq _) fun x22=>?_;refine Q.guardOO (Z61_eq _) fun x23=>?_;refine Q.condO ?_ ?_
   ·all_goals exact hret _
   refine Q.guardOO (Z44_eq _) fun x27=>?_;refine Q.guardOO (Z59_eq _) fun x28=>?_;refine Q.guardPO (Z65_eq _) fun x29 hx_x29=>?_;refine Q.condO ?_ ?_
   ·all_goals exact hret _
   all_goals exact ih10 _ ⟨by omega,by omega⟩
  rw [dL (by omega),Z63_q10];refine QF hlt ?_;exact hend n10 s3_11
def Z63_q (a0:(Sl Z9)):Option Bool:=bif (decide ((16:Int)<((a0.l.length:Nat):Int))) then(some false) else(Option.bind (Z63_q10  a0.l ) fun o10=>match o10 with|Sum.inl _=>(on (()) fun _=>some true)|Sum.inr e10=>(some e10))
theorem Z63_eq (a0:(Sl Z9)):Z63 a0=Z63_q a0:=by
 unfold Z63 Z63_q;refine Qs ?_;refine Q.condO ?_ ?_
 ·all_goals rfl
 refine Q.wrapOO fun Kb10 hKb10=>?_;refine Z63_l10_qe  Kb10 ?_ ?_ _ _ ⟨Nat.succ_pos _,by omega⟩
 ·intro n10 s3_11;refine Qe (hKb10 _) ?_;try dsimp only
  refine Q.wrapPO fun Kj7 hKj7=>?_;have hj7:Z63_j7  =Kj7 ():=by
   refine Qe (hKj7 _) ?_;unfold Z63_j7;all_goals rfl
  all_goals exact hj7
 intro e10;refine Qe (hKb10 _) ?_;try dsimp only
 all_goals rfl
def Z62_q10 :List Z7->Option (Unit ⊕ Bool)
 | []=>some (Sum.inl ())
 | h10::r10=>on (h10) fun x18=>on (Z37_q x18.FName) fun x19=>on (bif !(!x19) then h10 else Z7.zero) fun x20=>guardO (!(!x19)) (Z63_q x20.FArgs) false fun x21=>on (bif !((!x19)||(!x21)) then h10 else Z7.zero) fun x22=>guardO (!((!x19)||(!x21))) (Z54_q x22.FType) false fun x23=>on (bif !(((!x19)||(!x21))||(!x23)) then h10 else Z7.zero) fun x24=>guardO (!(((!x19)||(!x21))||(!x23))) (Z61_q x24.FDirs) false fun x25=>bif ((((!x19)||(!x21))||(!x23))||(!x25)) then(some (Sum.inr false)) else(Z62_q10  (r10) )
theorem Z62_l10_qe {a0:(Sl Z7)}  (Kb10:(Unit ⊕ Bool)->Option Bool) (hend:∀(n10:Nat) (s3_11:Nat),Z62_j7   =Kb10 (Sum.inl ())) (hret:∀e:Bool,some e=Kb10 (Sum.inr e)):∀(n10:Nat) (s3_11:Nat),(0<n10/\a0.l.length<s3_11+n10)->Z62_l10 a0 n10 s3_11=Option.bind (Z62_q10  (a0.l.drop s3_11) ) Kb10:=by
 intro n10;induction n10 with
 | zero=>intro s3_11 hn; exact absurd hn.1 (by omega)
 | succ n10 ih10 =>
  intro s3_11 hn;rw [Z62_l10];by_cases hlt:s3_11<a0.l.length
  ·obtain⟨h10,hh10⟩:=Qa hlt;rw [Q.drop_of hh10,Z62_q10];refine QT hlt ?_;refine Q.bindPO hh10 fun x18 hx_x18=>?_;refine Q.bindPO (Z37_eq _) fun x19 hx_x19=>?_;refine Q.guardPO hh10 fun x20 hx_x20=>?_;refine Q.guardOO (Z63_eq _) fun x21=>?_;refine Q.guardPO hh10 fun x22 hx_x22=>?_;refine Q.guardOO (Z54_eq _) fun x23=>?_;refine Q.guardPO hh10 fun x24 hx_x24=>?_;refine Q.guardOO (Z61_eq _) fun x25=>?_
   refine Q.condO ?_ ?_
   ·all_goals exact hret _
   all_goals exact ih10 _ ⟨by omega,by omega⟩
  rw [dL (by omega),Z62_q10];refine QF hlt ?_;exact hend n10 s3_11
def Z62_q (a0:(Sl Z7)):Option Bool:=bif ((decide (((a0.l.length:Nat):Int)<(1:Int)))||(decide ((64:Int)<((a0.l.length:Nat):Int)))) then(some false) else(Option.bind (Z62_q10  a0.l ) fun o10=>match o10 with|Sum.inl _=>(on (()) fun _=>some true)|Sum.inr e10=>(some e10))
theorem Z62_eq (a0:(Sl Z7)):Z62 a0=Z62_q a0:=by
 unfold Z62 Z62_q;refine Qs ?_;refine Q.condO ?_ ?_
 ·all_goals rfl
 refine Q.wrapOO fun Kb10 hKb10=>?_;refine Z62_l10_qe  Kb10 ?_ ?_ _ _ ⟨Nat.succ_pos _,by omega⟩
 ·intro n10 s3_11;refine Qe (hKb10 _) ?_;try dsimp only
  refine Q.wrapPO fun Kj7 hKj7=>?_;have hj7:Z62_j7  =Kj7 ():=by
   refine Qe (hKj7 _) ?_;unfold Z62_j7;all_goals rfl
  all_goals exact hj7
 intro e10;refine Qe (hKb10 _) ?_;try dsimp only
 all_goals rfl
def Z64_q10 (a1:Bool):List Z10->Option (Unit ⊕ Bool)
 | []=>some (Sum.inl ())
 | h10::r10=>on (h10) fun x18=>on (Z37_q x18.FName) fun x19=>on (bif !(!x19) then h10 else Z10.zero) fun x20=>guardO (!(!x19)) (Z61_q x20.FDirs) false fun x21=>on (bif (!((!x19)||(!x21))&&a1) then h10 else Z10.zero) fun x22=>bif (((!x19)||(!x21))||(a1&&(decide ((0:Int)<((x22.FDirs.l.length:Nat):Int))))) then(some (Sum.inr false)) else(Z64_q10 a1 (r10) )
theorem Z64_l10_qe {a0:(Sl Z10)}{a1:Bool}  (Kb10:(Unit ⊕ Bool)->Option Bool) (hend:∀(n10:Nat) (s5_11:Nat),Z64_j7   =Kb10 (Sum.inl ())) (hret:∀e:Bool,some e=Kb10 (Sum.inr e)):∀(n10:Nat) (s5_11:Nat),(0<n10/\a0.l.length<s5_11+n10)->Z64_l10 a0 a1 n10 s5_11=Option.bind (Z64_q10 a1 (a0.l.drop s5_11) ) Kb10:=by
 intro n10;induction n10 with
 | zero=>intro s5_11 hn; exact absurd hn.1 (by omega)
 | succ n10 ih10 =>
  intro s5_11 hn;rw [Z64_l10];by_cases hlt:s5_11<a0.l.length
  ·obtain⟨h10,hh10⟩:=Qa hlt;rw [Q.drop_of hh10,Z64_q10];refine QT hlt ?_;refine Q.bindPO hh10 fun x18 hx_x18=>?_;refine Q.bindPO (Z37_eq _) fun x19 hx_x19=>?_;refine Q.guardPO hh10 fun x20 hx_x20=>?_;refine Q.guardOO (Z61_eq _) fun x21=>?_;refine Q.guardPO hh10 fun x22 hx_x22=>?_;refine Q.condO ?_ ?_
   ·all_goals exact hret _
   all_goals exact ih10 _ ⟨by omega,by omega⟩
  rw [dL (by omega),Z64_q10];refine QF hlt ?_;exact hend n10 s5_11
def Z64_q (a0:(Sl Z10)) (a1:Bool):Option Bool:=bif ((decide (((a0.l.length:Nat):Int)<(1:Int)))||(decide ((64:Int)<((a0.l.length:Nat):Int)))) then(some false) else(Option.bind (Z64_q10 a1 a0.l ) fun o10=>match o10 with|Sum.inl _=>(on (()) fun _=>some true)|Sum.inr e10=>(some e10))
theorem Z64_eq (a0:(Sl Z10)) (a1:Bool):Z64 a0 a1=Z64_q a0 a1:=by
 unfold Z64 Z64_q;refine Qs ?_;refine Q.condO ?_ ?_
 ·all_goals rfl
 refine Q.wrapOO fun Kb10 hKb10=>?_;refine Z64_l10_qe  Kb10 ?_ ?_ _ _ ⟨Nat.succ_pos _,by omega⟩
 ·intro n10 s5_11;refine Qe (hKb10 _) ?_;try dsimp only
  refine Q.wrapPO fun Kj7 hKj7=>?_;have hj7:Z64_j7  =Kj7 ():=by
   refine Qe (hKj7 _) ?_;unfold Z64_j7;all_goals rfl
  all_goals exact hj7
 intro e10;refine Qe (hKb10 _) ?_;try dsimp only
 all_goals rfl
def Z60_q34 :List Bs->Unit ⊕ Bool
 | []=>Sum.inl ()
 | h34::r34=>on (h34) fun x42=>on (Z37_q x42) fun x43=>bif (!x43) then(Sum.inr false) else(Z60_q34  (r34) )
theorem Z60_l34_qe {a0:TDef}  (Kb34:(Unit ⊕ Bool)->Option Bool) (hend:∀(n34:Nat) (s3_35:Nat),Z60_j8 a0  =Kb34 (Sum.inl ())) (hret:∀e:Bool,some e=Kb34 (Sum.inr e)):∀(n34:Nat) (s3_35:Nat),(0<n34/\a0.FImplements.l.length<s3_35+n34)->Z60_l34 a0 n34 s3_35=Kb34 (Z60_q34  (a0.FImplements.l.drop s3_35) ):=by
 intro n34;induction n34 with
 | zero=>intro s3_35 hn; exact absurd hn.1 (by omega)
 | succ n34 ih34 =>
  intro s3_35 hn;rw [Z60_l34];by_cases hlt:s3_35<a0.FImplements.l.length
  ·obtain⟨h34,hh34⟩:=Qa hlt;rw [Q.drop_of hh34,Z60_q34];refine QT hlt ?_;refine Q.bindP hh34 fun x42 hx_x42=>?_;refine Q.bindP (Z37_eq _) fun x43 hx_x43=>?_;refine Q.condP ?_ ?_
   ·all_goals exact hret _
   all_goals exact ih34 _ ⟨by omega,by omega⟩
  rw [dL (by omega),Z60_q34];refine QF hlt ?_;exact hend n34 s3_35
def Z60_q (a0:TDef):Option Bool:=on (Z37_q a0.FName) fun x4=>guardO (!(!x4)) (Z61_q a0.FDirs) false fun x5=>bif (((!x4)||(!x5))||(decide ((64:Int)<((a0.FImplements.l.length:Nat):Int)))) then(some false) else(on (Z60_q34  a0.FImplements.l ) fun o34=>match o34 with|Sum.inl _=>(on (()) fun _=>bif (decide (a0.FKind=(1:Int))) then((Z62_q a0.FFields).bind fun x15=>some ((x15&&(decide (((a0.FMembers.l.length:Nat):Int)=(0:Int))))&&(decide (((a0.FInputs.l.length:Nat):Int)=(0:Int))))) else(bif (decide (a0.FKind=(2:Int))) then(guardO ((decide (((a0.FImplements.l.length:Nat):Int)=(0:Int)))) (Z62_q a0.FFields) false fun x19=>some ((((decide (((a0.FImplements.l.length:Nat):Int)=(0:Int)))&&x19)&&(decide (((a0.FMembers.l.length:Nat):Int)=(0:Int))))&&(decide (((a0.FInputs.l.length:Nat):Int)=(0:Int))))) else(bif (decide (a0.FKind=(3:Int))) then(guardO (((decide (((a0.FImplements.l.length:Nat):Int)=(0:Int)))&&(decide (((a0.FFields.l.length:Nat):Int)=(0:Int))))) (Z64_q a0.FMembers true) false fun x23=>some ((((decide (((a0.FImplements.l.length:Nat):Int)=(0:Int)))&&(decide (((a0.FFields.l.length:Nat):Int)=(0:Int))))&&x23)&&(decide (((a0.FInputs.l.length:Nat):Int)=(0:Int))))) else(bif (decide (a0.FKind=(4:Int))) then(guardO (((decide (((a0.FImplements.l.length:Nat):Int)=(0:Int)))&&(decide (((a0.FFields.l.length:Nat):Int)=(0:Int))))) (Z64_q a0.FMembers false) false fun x27=>some ((((decide (((a0.FImplements.l.length:Nat):Int)=(0:Int)))&&(decide (((a0.FFields.l.length:Nat):Int)=(0:Int))))&&x27)&&(decide (((a0.FInputs.l.length:Nat):Int)=(0:Int))))) else(bif (decide (a0.FKind=(5:Int))) then(guardO (((((decide (((a0.FImplements.l.length:Nat):Int)=(0:Int)))&&(decide (((a0.FFields.l.length:Nat):Int)=(0:Int))))&&(decide (((a0.FMembers.l.length:Nat):Int)=(0:Int))))&&(decide ((0:Int)<((a0.FInputs.l.length:Nat):Int))))) (Z63_q a0.FInputs) false fun x31=>some (((((decide (((a0.FImplements.l.length:Nat):Int)=(0:Int)))&&(decide (((a0.FFields.l.length:Nat):Int)=(0:Int))))&&(decide (((a0.FMembers.l.length:Nat):Int)=(0:Int))))&&(decide ((0:Int)<((a0.FInputs.l.length:Nat):Int))))&&x31)) else(some false))))))|Sum.inr e34=>(some e34))
theorem Z60_eq (a0:TDef):Z60 a0=Z60_q a0:=by
 unfold Z60 Z60_q;refine Qs ?_;refine Q.bindPO (Z37_eq _) fun x4 hx_x4=>?_;refine Q.guardOO (Z61_eq _) fun x5=>?_;refine Q.condO ?_ ?_
 ·all_goals rfl
 refine Q.wrapPO fun Kb34 hKb34=>?_;refine Z60_l34_qe  Kb34 ?_ ?_ _ _ ⟨Nat.succ_pos _,by omega⟩
 ·intro n34 s3_35;refine Qe (hKb34 _) ?_;try dsimp only
  refine Q.wrapPO fun Kj8 hKj8=>?_;have hj8:Z60_j8 a0 =Kj8 ():=by
   refine Qe (hKj8 _) ?_;unfold Z60_j8;refine Q.condO ?_ ?_
   ·refine Q.bindO (Z62_eq _) fun x15=>?_;all_goals rfl
   refine Q.condO ?_ ?_
   ·refine Q.guardOO (Z62_eq _) fun x19=>?_;all_goals rfl
   refine Q.condO ?_ ?_
   ·refine Q.guardOO (Z64_eq _ _) fun x23=>?_;all_goals rfl
   refine Q.condO ?_ ?_
   ·refine Q.guardOO (Z64_eq _ _) fun x27=>?_;all_goals rfl
   refine Q.condO ?_ ?_
   ·refine Q.guardOO (Z63_eq _) fun x31=>?_;all_goals rfl
   all_goals rfl
  all_goals exact hj8
 intro e34;refine Qe (hKb34 _) ?_;try dsimp only
 all_goals rfl
def Z58_q10 :List TDef->Option (Unit ⊕ Bool)
 | []=>some (Sum.inl ())
 | h10::r10=>on (h10) fun x18=>(Z60_q x18).bind fun x19=>bif (!x19) then(some (Sum.inr false)) else(Z58_q10  (r10) )
theorem Z58_l10_qe {a0:TDoc}  (Kb10:(Unit ⊕ Bool)->Option Bool) (hend:∀(n10:Nat) (s3_11:Nat),Z58_j7   =Kb10 (Sum.inl ())) (hret:∀e:Bool,some e=Kb10 (Sum.inr e)):∀(n10:Nat) (s3_11:Nat),(0<n10/\a0.FDefs.l.length<s3_11+n10)->Z58_l10 a0 n10 s3_11=Option.bind (Z58_q10  (a0.FDefs.l.drop s3_11) ) Kb10:=by
 intro n10;induction n10 with
 | zero=>intro s3_11 hn; exact absurd hn.1 (by omega)
 | succ n10 ih10 =>
  intro s3_11 hn;rw [Z58_l10];by_cases hlt:s3_11<a0.FDefs.l.length
  ·obtain⟨h10,hh10⟩:=Qa hlt;rw [Q.drop_of hh10,Z58_q10];refine QT hlt ?_;refine Q.bindPO hh10 fun x18 hx_x18=>?_;refine Q.bindO (Z60_eq _) fun x19=>?_;refine Q.condO ?_ ?_
   ·all_goals exact hret _
   all_goals exact ih10 _ ⟨by omega,by omega⟩
  rw [dL (by omega),Z58_q10];refine QF hlt ?_;exact hend n10 s3_11
def Z58_q (a0:TDoc):Option Bool:=bif ((decide (((a0.FDefs.l.length:Nat):Int)<(1:Int)))||(decide ((64:Int)<((a0.FDefs.l.length:Nat):Int)))) then(some false) else(Option.bind (Z58_q10  a0.FDefs.l ) fun o10=>match o10 with|Sum.inl _=>(on (()) fun _=>some true)|Sum.inr e10=>(some e10))
theorem Z58_eq (a0:TDoc):Z58 a0=Z58_q a0:=by
 unfold Z58 Z58_q;refine Qs ?_;refine Q.condO ?_ ?_
 ·all_goals rfl
 refine Q.wrapOO fun Kb10 hKb10=>?_;refine Z58_l10_qe  Kb10 ?_ ?_ _ _ ⟨Nat.succ_pos _,by omega⟩
 ·intro n10 s3_11;refine Qe (hKb10 _) ?_;try dsimp only
  refine Q.wrapPO fun Kj7 hKj7=>?_;have hj7:Z58_j7  =Kj7 ():=by
   refine Qe (hKj7 _) ?_;unfold Z58_j7;all_goals rfl
  all_goals exact hj7
 intro e10;refine Qe (hKb10 _) ?_;try dsimp only
 all_goals rfl
def Z75_q6 (a1:Bs):List TDef->Unit ⊕ ((TDef×Bool))
 | []=>Sum.inl ()
 | h6::r6=>on (h6) fun x15=>bif ((x15.FName==a1)) then(on (h6) fun x18=>Sum.inr (x18,true)) else(Z75_q6 a1 (r6) )
theorem Z75_l6_qe {a0:TDoc}{a1:Bs}  (Kb6:(Unit ⊕ ((TDef×Bool)))->Option (TDef×Bool)) (hend:∀(n6:Nat) (s6_7:Nat) (y8_l0:TDef),Z75_j2   y8_l0=Kb6 (Sum.inl ())) (hret:∀e:(TDef×Bool),some e=Kb6 (Sum.inr e)):∀(n6:Nat) (s6_7:Nat) (y8_l0:TDef),(0<n6/\a0.FDefs.l.length<s6_7+n6)->Z75_l6 a0 a1 n6 s6_7 y8_l0=Kb6 (Z75_q6 a1 (a0.FDefs.l.drop s6_7) ):=by
 intro n6;induction n6 with
 | zero=>intro s6_7 y8_l0 hn; exact absurd hn.1 (by omega)
 | succ n6 ih6 =>
  intro s6_7 y8_l0 hn;rw [Z75_l6];by_cases hlt:s6_7<a0.FDefs.l.length
  ·obtain⟨h6,hh6⟩:=Qa hlt;rw [Q.drop_of hh6,Z75_q6];refine QT hlt ?_;refine Q.bindP hh6 fun x15 hx_x15=>?_;refine Q.condP ?_ ?_
   ·refine Q.bindP hh6 fun x18 hx_x18=>?_;all_goals exact hret _
   all_goals exact ih6 _ _ ⟨by omega,by omega⟩
  rw [dL (by omega),Z75_q6];refine QF hlt ?_;exact hend n6 s6_7 y8_l0
def Z75_q (a0:TDoc) (a1:Bs):(TDef×Bool):=on (Z75_q6 a1 a0.FDefs.l ) fun o6=>match o6 with|Sum.inl _=>(on (()) fun _=>((TDef.mk (0:Int) ([]:Bs) (Sl.nil:Sl Bs) (Sl.nil:Sl TDir) (Sl.nil:Sl Z7) (Sl.nil:Sl Z10) (Sl.nil:Sl Z9)),false))|Sum.inr e6=>(e6)
theorem Z75_eq (a0:TDoc) (a1:Bs):Z75 a0 a1=some (Z75_q a0 a1):=by
 unfold Z75 Z75_q;refine Q.wrapPP fun Kb6 hKb6=>?_;refine Z75_l6_qe  Kb6 ?_ ?_ _ _ _ ⟨Nat.succ_pos _,by omega⟩
 ·intro n6 s6_7 y8_l0;refine Qe (hKb6 _) ?_;try dsimp only
  refine Q.wrapPP fun Kj2 hKj2=>?_;have hj2:∀(y3_l0:TDef),Z75_j2  y3_l0=Kj2 ():=by
   intro y3_l0;refine Qe (hKj2 _) ?_;unfold Z75_j2;all_goals rfl
  all_goals exact hj2 _
 intro e6;refine Qe (hKb6 _) ?_;try dsimp only
 all_goals rfl
def Z79_q (a0:Bs):Bool:=(((((a0==([73,110,116]:Bs)))||((a0==([83,116,114,105,110,103]:Bs))))||((a0==([66,111,111,108,101,97,110]:Bs))))||((a0==([73,68]:Bs))))
theorem Z79_eq (a0:Bs):Z79 a0=some (Z79_q a0):=by
 unfold Z79 Z79_q;all_goals rfl
def Z38_q (a0:Bs):Option Bool:=guardO ((decide ((2:Int)<=((a0.length:Nat):Int)))) (a0[0]?) (0:UInt8) fun x4=>guardO (((decide ((2:Int)<=((a0.length:Nat):Int)))&&(decide (((x4.toNat:Nat):Int)=(95:Int))))) (a0[1]?) (0:UInt8) fun x5=>some (((decide ((2:Int)<=((a0.length:Nat):Int)))&&(decide (((x4.toNat:Nat):Int)=(95:Int))))&&(decide (((x5.toNat:Nat):Int)=(95:Int))))
theorem Z38_eq (a0:Bs):Z38 a0=Z38_q a0:=by
 unfold Z38 Z38_q;refine Qs ?_;refine Q.guardOO rfl fun x4=>?_;refine Q.guardOO rfl fun x5=>?_;all_goals rfl
def Z80_q (a0:Bs):Option Bool:=on (Z37_q a0) fun x3=>guardO (x3) (Z38_q a0) false fun x4=>some (x3&&(!x4))
theorem Z80_eq (a0:Bs):Z80 a0=Z80_q a0:=by
 unfold Z80 Z80_q;refine Qs ?_;refine Q.bindPO (Z37_eq _) fun x3 hx_x3=>?_;refine Q.guardOO (Z38_eq _) fun x4=>?_;all_goals rfl
def Z89_q (a0:Bs) (a1:Bool) (a2:Bool) (a3:Bs):Option (Sl Z6):=guardO (!a1) (Z80_q a0) false fun x12=>Option.bind (bif (a1||(!x12)) then((appC 24 (Sl.nil:Sl Z6) (⟨false,[(Z6.mk (6:Int) a3)]⟩:Sl Z6)).bind fun x14=>some x14) else(some (Sl.nil:Sl Z6))) fun s9_4=>Option.bind (bif a2 then((appC 24 s9_4 (⟨false,[(Z6.mk (7:Int) a3)]⟩:Sl Z6)).bind fun x10=>some x10) else(some s9_4)) fun s9_6=>some s9_6
theorem Z89_eq (a0:Bs) (a1:Bool) (a2:Bool) (a3:Bs):Z89 a0 a1 a2 a3=Z89_q a0 a1 a2 a3:=by
 unfold Z89 Z89_q;refine Qs ?_;refine Q.guardOO (Z80_eq _) fun x12=>?_;refine Q.wrapOO fun Kj3 hKj3=>?_;have hj3:∀(s9_4:(Sl Z6)),Z89_j3 a2 a3 s9_4=Kj3 s9_4:=by
  intro s9_4;refine Qe (hKj3 _) ?_;unfold Z89_j3;refine Q.wrapOO fun Kj5 hKj5=>?_;have hj5:∀(s9_6:(Sl Z6)),Z89_j5  s9_6=Kj5 s9_6:=by
   intro s9_6;refine Qe (hKj5 _) ?_;unfold Z89_j5;all_goals rfl
  refine Q.condO ?_ ?_
  ·refine Q.bindO rfl fun x10=>?_;all_goals exact hj5 _
  all_goals exact hj5 _
 refine Q.condO ?_ ?_
 ·refine Q.bindO rfl fun x14=>?_;all_goals exact hj3 _
 all_goals exact hj3 _
def Z83_q (a0:TDef):Bool:=on (bif (decide (a0.FKind=(1:Int))) then((decide (a0.FKind=(1:Int)))) else((decide (a0.FKind=(2:Int))))) fun s5_6=>bif s5_6 then((decide (((a0.FFields.l.length:Nat):Int)=(0:Int)))) else(on (bif (decide (a0.FKind=(3:Int))) then((decide (a0.FKind=(3:Int)))) else((decide (a0.FKind=(4:Int))))) fun s12_11=>bif s12_11 then((decide (((a0.FMembers.l.length:Nat):Int)=(0:Int)))) else(bif (decide (a0.FKind=(5:Int))) then((decide (((a0.FInputs.l.length:Nat):Int)=(0:Int)))) else(on (()) fun _=>false)))
theorem Z83_eq (a0:TDef):Z83 a0=some (Z83_q a0):=by
 unfold Z83 Z83_q;refine Q.wrapPP fun Kj5 hKj5=>?_;have hj5:∀(s5_6:Bool),Z83_j5 a0 s5_6=Kj5 s5_6:=by
  intro s5_6;refine Qe (hKj5 _) ?_;unfold Z83_j5;refine Q.condP ?_ ?_
  ·all_goals rfl
  refine Q.wrapPP fun Kj10 hKj10=>?_;have hj10:∀(s12_11:Bool),Z83_j10 a0 s12_11=Kj10 s12_11:=by
   intro s12_11;refine Qe (hKj10 _) ?_;unfold Z83_j10;refine Q.condP ?_ ?_
   ·all_goals rfl
   refine Q.condP ?_ ?_
   ·all_goals rfl
   refine Q.wrapPP fun Kj2 hKj2=>?_;have hj2:Z83_j2  =Kj2 ():=by
    refine Qe (hKj2 _) ?_;unfold Z83_j2;all_goals rfl
   all_goals exact hj2
  refine Q.condP ?_ ?_
  ·all_goals exact hj10 _
  all_goals exact hj10 _
 refine Q.condP ?_ ?_
 ·all_goals exact hj5 _
 all_goals exact hj5 _
def Z85_q5 (a1:Bs):List Bs->Unit ⊕ Bool
 | []=>Sum.inl ()
 | h5::r5=>on (h5) fun x13=>bif ((x13==a1)) then(Sum.inr true) else(Z85_q5 a1 (r5) )
theorem Z85_l5_qe {a0:(Sl Bs)}{a1:Bs}  (Kb5:(Unit ⊕ Bool)->Option Bool) (hend:∀(n5:Nat) (s5_6:Nat),Z85_j2   =Kb5 (Sum.inl ())) (hret:∀e:Bool,some e=Kb5 (Sum.inr e)):∀(n5:Nat) (s5_6:Nat),(0<n5/\a0.l.length<s5_6+n5)->Z85_l5 a0 a1 n5 s5_6=Kb5 (Z85_q5 a1 (a0.l.drop s5_6) ):=by
 intro n5;induction n5 with
 | zero=>intro s5_6 hn; exact absurd hn.1 (by omega)
 | succ n5 ih5 =>
  intro s5_6 hn;rw [Z85_l5];by_cases hlt:s5_6<a0.l.length
  ·obtain⟨h5,hh5⟩:=Qa hlt;rw [Q.drop_of hh5,Z85_q5];refine QT hlt ?_;refine Q.bindP hh5 fun x13 hx_x13=>?_;refine Q.condP ?_ ?_
   ·all_goals exact hret _
   all_goals exact ih5 _ ⟨by omega,by omega⟩
  rw [dL (by omega),Z85_q5];refine QF hlt ?_;exact hend n5 s5_6
def Z85_q (a0:(Sl Bs)) (a1:Bs):Bool:=on (Z85_q5 a1 a0.l ) fun o5=>match o5 with|Sum.inl _=>(on (()) fun _=>false)|Sum.inr e5=>(e5)
theorem Z85_eq (a0:(Sl Bs)) (a1:Bs):Z85 a0 a1=some (Z85_q a0 a1):=by
 unfold Z85 Z85_q;refine Q.wrapPP fun Kb5 hKb5=>?_;refine Z85_l5_qe  Kb5 ?_ ?_ _ _ ⟨Nat.succ_pos _,by omega⟩
 ·intro n5 s5_6;refine Qe (hKb5 _) ?_;try dsimp only
  refine Q.wrapPP fun Kj2 hKj2=>?_;have hj2:Z85_j2  =Kj2 ():=by
   refine Qe (hKj2 _) ?_;unfold Z85_j2;all_goals rfl
  all_goals exact hj2
 intro e5;refine Qe (hKb5 _) ?_;try dsimp only
 all_goals rfl
def Z82_q (a0:TRef):Option Bool:=guardO ((decide (((a0.FWraps.l.length:Nat):Int)=(1:Int)))) (a0.FWraps.l[0]?) (0:Int) fun x4=>some ((decide (((a0.FWraps.l.length:Nat):Int)=(1:Int)))&&(decide (x4=(1:Int))))
theorem Z82_eq (a0:TRef):Z82 a0=Z82_q a0:=by
 unfold Z82 Z82_q;refine Qs ?_;refine Q.guardOO rfl fun x4=>?_;all_goals rfl
end Go.Proofs

namespace Go.Proofs
open Go Go.Ab
def Z90_q6 (a0:TDoc) (a2:Bs):List Z9->(Sl Bs)->Option ((Sl Bs))
 | [],s3_7=>some s3_7
 | h6::r6,s3_7=>on (h6) fun x16=>on (Z75_q a0 x16.FType.FName) fun x18=>(Z82_q x16.FType).bind fun x20=>on (bif (x20&&(((x16.FType.FName==a2))||(x18.2&&(decide (x18.1.FKind=(5:Int)))))) then Z85_q s3_7 x16.FType.FName else false) fun x21=>Option.bind (bif ((x20&&(((x16.FType.FName==a2))||(x18.2&&(decide (x18.1.FKind=(5:Int))))))&&(!x21)) then((appC 16 s3_7 (⟨false,[x16.FType.FName]⟩:Sl Bs)).bind fun x23=>some x23) else(some s3_7)) fun s3_14=>Z90_q6 a0 a2 (r6) s3_14
theorem Z90_l6_qe {a0:TDoc}{a1:TDef}{a2:Bs}  (Kb6:((Sl Bs))->Option (Sl Bs)) (hend:∀(n6:Nat) (s3_7:(Sl Bs)) (s9_8:Nat),Z90_j2   s3_7=Kb6 s3_7):∀(n6:Nat) (s3_7:(Sl Bs)) (s9_8:Nat),(0<n6/\a1.FInputs.l.length<s9_8+n6)->Z90_l6 a0 a1 a2 n6 s3_7 s9_8=Option.bind (Z90_q6 a0 a2 (a1.FInputs.l.drop s9_8) s3_7) Kb6:=by
 intro n6;induction n6 with
 | zero=>intro s3_7 s9_8 hn; exact absurd hn.1 (by omega)
 | succ n6 ih6 =>
  intro s3_7 s9_8 hn;rw [Z90_l6];by_cases hlt:s9_8<a1.FInputs.l.length
  ·obtain⟨h6,hh6⟩:=Qa hlt;rw [Q.drop_of hh6,Z90_q6];refine QT hlt ?_;refine Q.bindPO hh6 fun x16 hx_x16=>?_;refine Q.bindPO (Z75_eq _ _) fun x18 hx_x18=>?_;refine Q.bindO (Z82_eq _) fun x20=>?_;refine Q.guardPO (Z85_eq _ _) fun x21 hx_x21=>?_;refine Q.wrapOO fun Kj13 hKj13=>?_;have hj13:∀(s3_14:(Sl Bs)),Z90_j13 s9_8 (Z90_l6 a0 a1 a2 n6) s3_14=Kj13 s3_14:=by
    intro s3_14;refine Qe (hKj13 _) ?_;unfold Z90_j13;all_goals exact ih6 _ _ ⟨by omega,by omega⟩
   refine Q.condO ?_ ?_
   ·refine Q.bindO rfl fun x23=>?_;all_goals exact hj13 _
   all_goals exact hj13 _
  rw [dL (by omega),Z90_q6];refine QF hlt ?_;exact hend n6 s3_7 s9_8
def Z90_q (a0:TDoc) (a1:TDef) (a2:Bs) (a3:(Sl Bs)):Option (Sl Bs):=Option.bind (Z90_q6 a0 a2 a1.FInputs.l a3) fun s3_7=>on (s3_7) fun s3_3=>some s3_3
theorem Z90_eq (a0:TDoc) (a1:TDef) (a2:Bs) (a3:(Sl Bs)):Z90 a0 a1 a2 a3=Z90_q a0 a1 a2 a3:=by
 unfold Z90 Z90_q;refine Qs ?_;refine Q.wrapOO fun Kb6 hKb6=>?_;refine Z90_l6_qe  Kb6 ?_ _ _ _ ⟨Nat.succ_pos _,by omega⟩;intro n6 s3_7 s9_8;refine Qe (hKb6 _) ?_;refine Q.wrapPO fun Kj2 hKj2=>?_;have hj2:∀(s3_3:(Sl Bs)),Z90_j2  s3_3=Kj2 s3_3:=by
  intro s3_3;refine Qe (hKj2 _) ?_;unfold Z90_j2;all_goals rfl
 all_goals exact hj2 _
def Z91_q (a0:TDoc) (a1:Int):Option (Sl Z6):=Z91 a0 a1
theorem Z91_eq (a0:TDoc) (a1:Int):Z91 a0 a1=Z91_q a0 a1:=rfl
def Z87_q (a0:TDoc) (a1:Bs):Bool:=on (Z75_q a0 a1) fun x3=>on (Z79_q a1) fun x5=>(x5||x3.2)
theorem Z87_eq (a0:TDoc) (a1:Bs):Z87 a0 a1=some (Z87_q a0 a1):=by
 unfold Z87 Z87_q;refine Q.bindP (Z75_eq _ _) fun x3 hx_x3=>?_;refine Q.bindP (Z79_eq _) fun x5 hx_x5=>?_;all_goals rfl
def Z76_q6 (a1:Bs):List Z9->Unit ⊕ ((Z9×Bool))
 | []=>Sum.inl ()
 | h6::r6=>on (h6) fun x15=>bif ((x15.FName==a1)) then(on (h6) fun x18=>Sum.inr (x18,true)) else(Z76_q6 a1 (r6) )
theorem Z76_l6_qe {a0:(Sl Z9)}{a1:Bs}  (Kb6:(Unit ⊕ ((Z9×Bool)))->Option (Z9×Bool)) (hend:∀(n6:Nat) (s6_7:Nat) (y8_l0:Z9),Z76_j2   y8_l0=Kb6 (Sum.inl ())) (hret:∀e:(Z9×Bool),some e=Kb6 (Sum.inr e)):∀(n6:Nat) (s6_7:Nat) (y8_l0:Z9),(0<n6/\a0.l.length<s6_7+n6)->Z76_l6 a0 a1 n6 s6_7 y8_l0=Kb6 (Z76_q6 a1 (a0.l.drop s6_7) ):=by
 intro n6;induction n6 with
 | zero=>intro s6_7 y8_l0 hn; exact absurd hn.1 (by omega)
 | succ n6 ih6 =>
  intro s6_7 y8_l0 hn;rw [Z76_l6];by_cases hlt:s6_7<a0.l.length
  ·obtain⟨h6,hh6⟩:=Qa hlt;rw [Q.drop_of hh6,Z76_q6];refine QT hlt ?_;refine Q.bindP hh6 fun x15 hx_x15=>?_;refine Q.condP ?_ ?_
   ·refine Q.bindP hh6 fun x18 hx_x18=>?_;all_goals exact hret _
   all_goals exact ih6 _ _ ⟨by omega,by omega⟩
  rw [dL (by omega),Z76_q6];refine QF hlt ?_;exact hend n6 s6_7 y8_l0
def Z76_q (a0:(Sl Z9)) (a1:Bs):(Z9×Bool):=on (Z76_q6 a1 a0.l ) fun o6=>match o6 with|Sum.inl _=>(on (()) fun _=>((Z9.mk ([]:Bs) TRef.zero false Z12.zero (Sl.nil:Sl TDir)),false))|Sum.inr e6=>(e6)
theorem Z76_eq (a0:(Sl Z9)) (a1:Bs):Z76 a0 a1=some (Z76_q a0 a1):=by
 unfold Z76 Z76_q;refine Q.wrapPP fun Kb6 hKb6=>?_;refine Z76_l6_qe  Kb6 ?_ ?_ _ _ _ ⟨Nat.succ_pos _,by omega⟩
 ·intro n6 s6_7 y8_l0;refine Qe (hKb6 _) ?_;try dsimp only
  refine Q.wrapPP fun Kj2 hKj2=>?_;have hj2:∀(y3_l0:Z9),Z76_j2  y3_l0=Kj2 ():=by
   intro y3_l0;refine Qe (hKj2 _) ?_;unfold Z76_j2;all_goals rfl
  all_goals exact hj2 _
 intro e6;refine Qe (hKb6 _) ?_;try dsimp only
 all_goals rfl
def Z78_q (a0:TDoc) (a1:Bs):Bool:=on (Z75_q a0 a1) fun x3=>on (Z79_q a1) fun x5=>(x5||(x3.2&&(decide (x3.1.FKind=(4:Int)))))
theorem Z78_eq (a0:TDoc) (a1:Bs):Z78 a0 a1=some (Z78_q a0 a1):=by
 unfold Z78 Z78_q;refine Q.bindP (Z75_eq _ _) fun x3 hx_x3=>?_;refine Q.bindP (Z79_eq _) fun x5 hx_x5=>?_;all_goals rfl
def Z77_q (a0:TDoc) (a1:Bs):Bool:=on (Z75_q a0 a1) fun x3=>on (Z78_q a0 a1) fun x5=>(x5||(x3.2&&(decide (x3.1.FKind=(5:Int)))))
theorem Z77_eq (a0:TDoc) (a1:Bs):Z77 a0 a1=some (Z77_q a0 a1):=by
 unfold Z77 Z77_q;refine Q.bindP (Z75_eq _ _) fun x3 hx_x3=>?_;refine Q.bindP (Z78_eq _ _) fun x5 hx_x5=>?_;all_goals rfl
def Z86_q7 (a0:TDoc) (a1:(Sl Z9)) (a2:Bs) (a3:Bs):List Z9->Nat->(Sl Z6)->Option ((Sl Z6))
 | [],s10_9,s9_8=>some s9_8
 | h7::r7,s10_9,s9_8=>on (h7) fun x17=>(catC a2 x17.FName).bind fun x18=>(catC x18 a3).bind fun x19=>on ((⟨a1.nl,a1.l.take s10_9⟩:Sl Z9)) fun x21=>on (h7) fun x22=>on (Z76_q x21 x22.FName) fun x23=>on (h7) fun x25=>(Z89_q x25.FName false x23.2 x19).bind fun x26=>(appC 24 s9_8 x26).bind fun x27=>on (h7) fun x29=>on (Z87_q a0 x29.FType.FName) fun x30=>Option.bind (bif (!x30) then((appC 24 x27 (⟨false,[(Z6.mk (8:Int) x19)]⟩:Sl Z6)).bind fun x32=>some x32) else(on (h7) fun x34=>on (Z77_q a0 x34.FType.FName) fun x35=>bif (!x35) then((appC 24 x27 (⟨false,[(Z6.mk (10:Int) x19)]⟩:Sl Z6)).bind fun x37=>some x37) else(some x27))) fun s9_15=>Z86_q7 a0 a1 a2 a3 (r7) (s10_9+1) s9_15
theorem Z86_l7_qe {a0:TDoc}{a1:(Sl Z9)}{a2:Bs}{a3:Bs}  (Kb7:((Sl Z6))->Option (Sl Z6)) (hend:∀(n7:Nat) (s9_8:(Sl Z6)) (s10_9:Nat),Z86_j3   s9_8=Kb7 s9_8):∀(n7:Nat) (s9_8:(Sl Z6)) (s10_9:Nat),(0<n7/\a1.l.length<s10_9+n7)->Z86_l7 a0 a1 a2 a3 n7 s9_8 s10_9=Option.bind (Z86_q7 a0 a1 a2 a3 (a1.l.drop s10_9) s10_9 s9_8) Kb7:=by
 intro n7;induction n7 with
 | zero=>intro s9_8 s10_9 hn; exact absurd hn.1 (by omega)
 | succ n7 ih7 =>
  intro s9_8 s10_9 hn;rw [Z86_l7];by_cases hlt:s10_9<a1.l.length
  ·obtain⟨h7,hh7⟩:=Qa hlt;rw [Q.drop_of hh7,Z86_q7];refine QT hlt ?_;refine Q.bindPO hh7 fun x17 hx_x17=>?_;refine Q.bindO rfl fun x18=>?_;refine Q.bindO rfl fun x19=>?_;refine Q.bindPO (Q.partC_take (by omega)) fun x21 hx_x21=>?_;refine Q.bindPO hh7 fun x22 hx_x22=>?_;refine Q.bindPO (Z76_eq _ _) fun x23 hx_x23=>?_;refine Q.bindPO hh7 fun x25 hx_x25=>?_;refine Q.bindO (Z89_eq _ _ _ _) fun x26=>?_
   refine Q.bindO rfl fun x27=>?_;refine Q.bindPO hh7 fun x29 hx_x29=>?_;refine Q.bindPO (Z87_eq _ _) fun x30 hx_x30=>?_;refine Q.wrapOO fun Kj14 hKj14=>?_;have hj14:∀(s9_15:(Sl Z6)),Z86_j14 s10_9 (Z86_l7 a0 a1 a2 a3 n7) s9_15=Kj14 s9_15:=by
    intro s9_15;refine Qe (hKj14 _) ?_;unfold Z86_j14;all_goals exact ih7 _ _ ⟨by omega,by omega⟩
   refine Q.condO ?_ ?_
   ·refine Q.bindO rfl fun x32=>?_;all_goals exact hj14 _
   refine Q.bindPO hh7 fun x34 hx_x34=>?_;refine Q.bindPO (Z77_eq _ _) fun x35 hx_x35=>?_;refine Q.condO ?_ ?_
   ·refine Q.bindO rfl fun x37=>?_;all_goals exact hj14 _
   all_goals exact hj14 _
  rw [dL (by omega),Z86_q7];refine QF hlt ?_;exact hend n7 s9_8 s10_9
def Z86_q (a0:TDoc) (a1:(Sl Z9)) (a2:Bs) (a3:Bs):Option (Sl Z6):=Option.bind (Z86_q7 a0 a1 a2 a3 a1.l 0 (Sl.nil:Sl Z6)) fun s9_8=>on (s9_8) fun s9_4=>some s9_4
theorem Z86_eq (a0:TDoc) (a1:(Sl Z9)) (a2:Bs) (a3:Bs):Z86 a0 a1 a2 a3=Z86_q a0 a1 a2 a3:=by
 unfold Z86 Z86_q;refine Qs ?_;refine Q.wrapOO fun Kb7 hKb7=>?_;refine Z86_l7_qe  Kb7 ?_ _ _ _ ⟨Nat.succ_pos _,by omega⟩;intro n7 s9_8 s10_9;refine Qe (hKb7 _) ?_;refine Q.wrapPO fun Kj3 hKj3=>?_;have hj3:∀(s9_4:(Sl Z6)),Z86_j3  s9_4=Kj3 s9_4:=by
  intro s9_4;refine Qe (hKj3 _) ?_;unfold Z86_j3;all_goals rfl
 all_goals exact hj3 _
def Z74_q6 (a1:Bs):List Z7->Unit ⊕ ((Z7×Bool))
 | []=>Sum.inl ()
 | h6::r6=>on (h6) fun x15=>bif ((x15.FName==a1)) then(on (h6) fun x18=>Sum.inr (x18,true)) else(Z74_q6 a1 (r6) )
theorem Z74_l6_qe {a0:TDef}{a1:Bs}  (Kb6:(Unit ⊕ ((Z7×Bool)))->Option (Z7×Bool)) (hend:∀(n6:Nat) (s6_7:Nat) (y8_l0:Z7),Z74_j2   y8_l0=Kb6 (Sum.inl ())) (hret:∀e:(Z7×Bool),some e=Kb6 (Sum.inr e)):∀(n6:Nat) (s6_7:Nat) (y8_l0:Z7),(0<n6/\a0.FFields.l.length<s6_7+n6)->Z74_l6 a0 a1 n6 s6_7 y8_l0=Kb6 (Z74_q6 a1 (a0.FFields.l.drop s6_7) ):=by
 intro n6;induction n6 with
 | zero=>intro s6_7 y8_l0 hn; exact absurd hn.1 (by omega)
 | succ n6 ih6 =>
  intro s6_7 y8_l0 hn;rw [Z74_l6];by_cases hlt:s6_7<a0.FFields.l.length
  ·obtain⟨h6,hh6⟩:=Qa hlt;rw [Q.drop_of hh6,Z74_q6];refine QT hlt ?_;refine Q.bindP hh6 fun x15 hx_x15=>?_;refine Q.condP ?_ ?_
   ·refine Q.bindP hh6 fun x18 hx_x18=>?_;all_goals exact hret _
   all_goals exact ih6 _ _ ⟨by omega,by omega⟩
  rw [dL (by omega),Z74_q6];refine QF hlt ?_;exact hend n6 s6_7 y8_l0
def Z74_q (a0:TDef) (a1:Bs):(Z7×Bool):=on (Z74_q6 a1 a0.FFields.l ) fun o6=>match o6 with|Sum.inl _=>(on (()) fun _=>((Z7.mk ([]:Bs) (Sl.nil:Sl Z9) TRef.zero (Sl.nil:Sl TDir)),false))|Sum.inr e6=>(e6)
theorem Z74_eq (a0:TDef) (a1:Bs):Z74 a0 a1=some (Z74_q a0 a1):=by
 unfold Z74 Z74_q;refine Q.wrapPP fun Kb6 hKb6=>?_;refine Z74_l6_qe  Kb6 ?_ ?_ _ _ _ ⟨Nat.succ_pos _,by omega⟩
 ·intro n6 s6_7 y8_l0;refine Qe (hKb6 _) ?_;try dsimp only
  refine Q.wrapPP fun Kj2 hKj2=>?_;have hj2:∀(y3_l0:Z7),Z74_j2  y3_l0=Kj2 ():=by
   intro y3_l0;refine Qe (hKj2 _) ?_;unfold Z74_j2;all_goals rfl
  all_goals exact hj2 _
 intro e6;refine Qe (hKb6 _) ?_;try dsimp only
 all_goals rfl
def Z84_q7 (a0:TDoc) (a1:TDef):List Z7->Nat->(Sl Z6)->Option ((Sl Z6))
 | [],s6_9,s5_8=>some s5_8
 | h7::r7,s6_9,s5_8=>on (h7) fun x17=>(catC a1.FName ([46]:Bs)).bind fun x19=>(catC x19 x17.FName).bind fun x20=>on ((⟨a1.FFields.nl,a1.FFields.l.take s6_9⟩:Sl Z7)) fun x22=>on (Z74_q (TDef.mk (0:Int) ([]:Bs) (Sl.nil:Sl Bs) (Sl.nil:Sl TDir) x22 (Sl.nil:Sl Z10) (Sl.nil:Sl Z9)) x17.FName) fun x23=>(Z89_q x17.FName false x23.2 x20).bind fun x25=>(appC 24 s5_8 x25).bind fun x26=>on (Z75_q a0 x17.FType.FName) fun x28=>on (Z87_q a0 x17.FType.FName) fun x35=>Option.bind (bif (!x35) then((appC 24 x26 (⟨false,[(Z6.mk (8:Int) x20)]⟩:Sl Z6)).bind fun x37=>some x37) else(on (Z79_q x17.FType.FName) fun x39=>bif (((!x39)&&x28.2)&&(decide (x28.1.FKind=(5:Int)))) then((appC 24 x26 (⟨false,[(Z6.mk (10:Int) x20)]⟩:Sl Z6)).bind fun x41=>some x41) else(some x26))) fun s5_30=>(catC x20 ([40]:Bs)).bind fun x31=>(Z86_q a0 x17.FArgs x31 ([41]:Bs)).bind fun x32=>(appC 24 s5_30 x32).bind fun x33=>on (x33) fun s5_15=>Z84_q7 a0 a1 (r7) (s6_9+1) s5_15
theorem Z84_l7_qe {a0:TDoc}{a1:TDef}  (Kb7:((Sl Z6))->Option (Sl Z6)) (hend:∀(n7:Nat) (s5_8:(Sl Z6)) (s6_9:Nat),Z84_j3   s5_8=Kb7 s5_8):∀(n7:Nat) (s5_8:(Sl Z6)) (s6_9:Nat),(0<n7/\a1.FFields.l.length<s6_9+n7)->Z84_l7 a0 a1 n7 s5_8 s6_9=Option.bind (Z84_q7 a0 a1 (a1.FFields.l.drop s6_9) s6_9 s5_8) Kb7:=by
 intro n7;induction n7 with
 | zero=>intro s5_8 s6_9 hn; exact absurd hn.1 (by omega)
 | succ n7 ih7 =>
  intro s5_8 s6_9 hn;rw [Z84_l7];by_cases hlt:s6_9<a1.FFields.l.length
  ·obtain⟨h7,hh7⟩:=Qa hlt;rw [Q.drop_of hh7,Z84_q7];refine QT hlt ?_;refine Q.bindPO hh7 fun x17 hx_x17=>?_;refine Q.bindO rfl fun x19=>?_;refine Q.bindO rfl fun x20=>?_;refine Q.bindPO (Q.partC_take (by omega)) fun x22 hx_x22=>?_;refine Q.bindPO (Z74_eq _ _) fun x23 hx_x23=>?_;refine Q.bindO (Z89_eq _ _ _ _) fun x25=>?_;refine Q.bindO rfl fun x26=>?_;refine Q.bindPO (Z75_eq _ _) fun x28 hx_x28=>?_
   refine Q.bindPO (Z87_eq _ _) fun x35 hx_x35=>?_;refine Q.wrapOO fun Kj29 hKj29=>?_;have hj29:∀(s5_30:(Sl Z6)),Z84_j29 a0 s6_9 x17 x20 (Z84_l7 a0 a1 n7) s5_30=Kj29 s5_30:=by
    intro s5_30;refine Qe (hKj29 _) ?_;unfold Z84_j29;refine Q.bindO rfl fun x31=>?_;refine Q.bindO (Z86_eq _ _ _ _) fun x32=>?_;refine Q.bindO rfl fun x33=>?_;refine Q.wrapPO fun Kj14 hKj14=>?_;have hj14:∀(s5_15:(Sl Z6)),Z84_j14 s6_9 (Z84_l7 a0 a1 n7) s5_15=Kj14 s5_15:=by
     intro s5_15;refine Qe (hKj14 _) ?_;unfold Z84_j14;all_goals exact ih7 _ _ ⟨by omega,by omega⟩
    all_goals exact hj14 _
   refine Q.condO ?_ ?_
   ·refine Q.bindO rfl fun x37=>?_;all_goals exact hj29 _
   refine Q.bindPO (Z79_eq _) fun x39 hx_x39=>?_;refine Q.condO ?_ ?_
   ·refine Q.bindO rfl fun x41=>?_;all_goals exact hj29 _
   all_goals exact hj29 _
  rw [dL (by omega),Z84_q7];refine QF hlt ?_;exact hend n7 s5_8 s6_9
def Z84_q (a0:TDoc) (a1:TDef):Option (Sl Z6):=Option.bind (Z84_q7 a0 a1 a1.FFields.l 0 (Sl.nil:Sl Z6)) fun s5_8=>on (s5_8) fun s5_4=>some s5_4
theorem Z84_eq (a0:TDoc) (a1:TDef):Z84 a0 a1=Z84_q a0 a1:=by
 unfold Z84 Z84_q;refine Qs ?_;refine Q.wrapOO fun Kb7 hKb7=>?_;refine Z84_l7_qe  Kb7 ?_ _ _ _ ⟨Nat.succ_pos _,by omega⟩;intro n7 s5_8 s6_9;refine Qe (hKb7 _) ?_;refine Q.wrapPO fun Kj3 hKj3=>?_;have hj3:∀(s5_4:(Sl Z6)),Z84_j3  s5_4=Kj3 s5_4:=by
  intro s5_4;refine Qe (hKj3 _) ?_;unfold Z84_j3;all_goals rfl
 all_goals exact hj3 _
def Z88_q26 (a0:TDef) (x17:Z10):Nat->Nat->Bool->Option (Bool)
 | 0,s7_28,s6_27=>some s6_27
 | r26+1,s7_28,s6_27=>guardO (!s6_27) (a0.FMembers.l[s7_28]?) Z10.zero fun x33=>Z88_q26 a0 x17 (r26) (s7_28+1) (s6_27||((x33.FName==x17.FName)))
theorem Z88_l26_qe {a0:TDef}{s3_8:(Sl Z6)}{s4_9:Nat}{x17:Z10}{k_next_7:(Sl Z6)->Nat->Option (Sl Z6)}  (Kb26:(Bool)->Option (Sl Z6)) (hend:∀(n26:Nat) (s6_27:Bool) (s7_28:Nat),Z88_j19 a0 s3_8 s4_9 x17 k_next_7 s6_27=Kb26 s6_27):∀(n26:Nat) (s6_27:Bool) (s7_28:Nat),(0<n26/\s4_9<s7_28+n26)->Z88_l26 a0 s3_8 s4_9 x17 k_next_7 n26 s6_27 s7_28=Option.bind (Z88_q26 a0 x17 (s4_9-s7_28) s7_28 s6_27) Kb26:=by
 intro n26;induction n26 with
 | zero=>intro s6_27 s7_28 hn; exact absurd hn.1 (by omega)
 | succ n26 ih26 =>
  intro s6_27 s7_28 hn;rw [Z88_l26];by_cases hlt:s7_28<s4_9
  ·rw [show s4_9-s7_28=(s4_9-(s7_28+1))+1 by omega,Z88_q26];refine QT hlt ?_;refine Q.guardOO rfl fun x33=>?_;all_goals exact ih26 _ _ ⟨by omega,by omega⟩
  rw [show s4_9-s7_28=0 by omega,Z88_q26];refine QF hlt ?_;exact hend n26 s6_27 s7_28
def Z88_q7 (a0:TDef):List Z10->Nat->(Sl Z6)->Option ((Sl Z6))
 | [],s4_9,s3_8=>some s3_8
 | h7::r7,s4_9,s3_8=>on (h7) fun x17=>Option.bind (Z88_q26 a0 x17 s4_9 0 false) fun s6_27=>on (s6_27) fun s6_20=>(catC a0.FName ([46]:Bs)).bind fun x21=>(catC x21 x17.FName).bind fun x22=>(Z89_q x17.FName ((((x17.FName==([116,114,117,101]:Bs)))||((x17.FName==([102,97,108,115,101]:Bs))))||((x17.FName==([110,117,108,108]:Bs)))) s6_20 x22).bind fun x23=>(appC 24 s3_8 x23).bind fun x24=>on (x24) fun s3_15=>Z88_q7 a0 (r7) (s4_9+1) s3_15
theorem Z88_l7_qe {a0:TDef}  (Kb7:((Sl Z6))->Option (Sl Z6)) (hend:∀(n7:Nat) (s3_8:(Sl Z6)) (s4_9:Nat),Z88_j3   s3_8=Kb7 s3_8):∀(n7:Nat) (s3_8:(Sl Z6)) (s4_9:Nat),(0<n7/\a0.FMembers.l.length<s4_9+n7)->Z88_l7 a0 n7 s3_8 s4_9=Option.bind (Z88_q7 a0 (a0.FMembers.l.drop s4_9) s4_9 s3_8) Kb7:=by
 intro n7;induction n7 with
 | zero=>intro s3_8 s4_9 hn; exact absurd hn.1 (by omega)
 | succ n7 ih7 =>
  intro s3_8 s4_9 hn;rw [Z88_l7];by_cases hlt:s4_9<a0.FMembers.l.length
  ·obtain⟨h7,hh7⟩:=Qa hlt;rw [Q.drop_of hh7,Z88_q7];refine QT hlt ?_;refine Q.bindPO hh7 fun x17 hx_x17=>?_;refine Q.wrapOO fun Kb26 hKb26=>?_;refine Z88_l26_qe  Kb26 ?_ _ _ _ ⟨Nat.succ_pos _,by omega⟩;intro n26 s6_27 s7_28;refine Qe (hKb26 _) ?_;refine Q.wrapPO fun Kj19 hKj19=>?_;have hj19:∀(s6_20:Bool),Z88_j19 a0 s3_8 s4_9 x17 (Z88_l7 a0 n7) s6_20=Kj19 s6_20:=by
    intro s6_20;refine Qe (hKj19 _) ?_;unfold Z88_j19;refine Q.bindO rfl fun x21=>?_;refine Q.bindO rfl fun x22=>?_;refine Q.bindO (Z89_eq _ _ _ _) fun x23=>?_;refine Q.bindO rfl fun x24=>?_;refine Q.wrapPO fun Kj14 hKj14=>?_;have hj14:∀(s3_15:(Sl Z6)),Z88_j14 s4_9 (Z88_l7 a0 n7) s3_15=Kj14 s3_15:=by
     intro s3_15;refine Qe (hKj14 _) ?_;unfold Z88_j14;all_goals exact ih7 _ _ ⟨by omega,by omega⟩
    all_goals exact hj14 _
   all_goals exact hj19 _
  rw [dL (by omega),Z88_q7];refine QF hlt ?_;exact hend n7 s3_8 s4_9
def Z88_q (a0:TDef):Option (Sl Z6):=Option.bind (Z88_q7 a0 a0.FMembers.l 0 (Sl.nil:Sl Z6)) fun s3_8=>on (s3_8) fun s3_4=>some s3_4
theorem Z88_eq (a0:TDef):Z88 a0=Z88_q a0:=by
 unfold Z88 Z88_q;refine Qs ?_;refine Q.wrapOO fun Kb7 hKb7=>?_;refine Z88_l7_qe  Kb7 ?_ _ _ _ ⟨Nat.succ_pos _,by omega⟩;intro n7 s3_8 s4_9;refine Qe (hKb7 _) ?_;refine Q.wrapPO fun Kj3 hKj3=>?_;have hj3:∀(s3_4:(Sl Z6)),Z88_j3  s3_4=Kj3 s3_4:=by
  intro s3_4;refine Qe (hKj3 _) ?_;unfold Z88_j3;all_goals rfl
 all_goals exact hj3 _
def Z73_q14 (a0:TDoc):List TDef->Nat->(Sl Z6)->Option ((Sl Z6))
 | [],s6_16,s5_15=>some s5_15
 | h14::r14,s6_16,s5_15=>on (h14) fun x24=>(Z91_q a0 ((s6_16:Nat):Int)).bind fun x26=>(appC 24 s5_15 x26).bind fun x27=>on (bif (decide (x24.FKind=(1:Int))) then((decide (x24.FKind=(1:Int)))) else((decide (x24.FKind=(2:Int))))) fun s29_30=>Option.bind (bif s29_30 then((Z84_q a0 x24).bind fun x32=>(appC 24 x27 x32).bind fun x33=>some x33) else(bif (decide (x24.FKind=(4:Int))) then((Z88_q x24).bind fun x36=>(appC 24 x27 x36).bind fun x37=>some x37) else(bif (decide (x24.FKind=(5:Int))) then((catC x24.FName ([46]:Bs)).bind fun x40=>(Z86_q a0 x24.FInputs x40 ([]:Bs)).bind fun x41=>(appC 24 x27 x41).bind fun x42=>some x42) else(some x27)))) fun s5_22=>Z73_q14 a0 (r14) (s6_16+1) s5_22
theorem Z73_l14_qe {a0:TDoc}{a1:Bool}  (Kb14:((Sl Z6))->Option (Sl Z6)) (hend:∀(n14:Nat) (s5_15:(Sl Z6)) (s6_16:Nat),Z73_j3 a0 a1  s5_15=Kb14 s5_15):∀(n14:Nat) (s5_15:(Sl Z6)) (s6_16:Nat),(0<n14/\a0.FDefs.l.length<s6_16+n14)->Z73_l14 a0 a1 n14 s5_15 s6_16=Option.bind (Z73_q14 a0 (a0.FDefs.l.drop s6_16) s6_16 s5_15) Kb14:=by
 intro n14;induction n14 with
 | zero=>intro s5_15 s6_16 hn; exact absurd hn.1 (by omega)
 | succ n14 ih14 =>
  intro s5_15 s6_16 hn;rw [Z73_l14];by_cases hlt:s6_16<a0.FDefs.l.length
  ·obtain⟨h14,hh14⟩:=Qa hlt;rw [Q.drop_of hh14,Z73_q14];refine QT hlt ?_;refine Q.bindPO hh14 fun x24 hx_x24=>?_;refine Q.bindO (Z91_eq _ _) fun x26=>?_;refine Q.bindO rfl fun x27=>?_;refine Q.wrapPO fun Kj29 hKj29=>?_;have hj29:∀(s29_30:Bool),Z73_j29 a0 s6_16 x24 x27 (Z73_l14 a0 a1 n14) s29_30=Kj29 s29_30:=by
    intro s29_30;refine Qe (hKj29 _) ?_;unfold Z73_j29;refine Q.wrapOO fun Kj21 hKj21=>?_;have hj21:∀(s5_22:(Sl Z6)),Z73_j21 s6_16 (Z73_l14 a0 a1 n14) s5_22=Kj21 s5_22:=by
     intro s5_22;refine Qe (hKj21 _) ?_;unfold Z73_j21;all_goals exact ih14 _ _ ⟨by omega,by omega⟩
    refine Q.condO ?_ ?_
    ·refine Q.bindO (Z84_eq _ _) fun x32=>?_;refine Q.bindO rfl fun x33=>?_;all_goals exact hj21 _
    refine Q.condO ?_ ?_
    ·refine Q.bindO (Z88_eq _) fun x36=>?_;refine Q.bindO rfl fun x37=>?_;all_goals exact hj21 _
    refine Q.condO ?_ ?_
    ·refine Q.bindO rfl fun x40=>?_;refine Q.bindO (Z86_eq _ _ _ _) fun x41=>?_;refine Q.bindO rfl fun x42=>?_;all_goals exact hj21 _
    all_goals exact hj21 _
   refine Q.condP ?_ ?_
   ·all_goals exact hj29 _
   all_goals exact hj29 _
  rw [dL (by omega),Z73_q14];refine QF hlt ?_;exact hend n14 s5_15 s6_16
def Z73_q (a0:TDoc) (a1:Bool):Option (Sl Z6):=Option.bind (Z73_q14 a0 a0.FDefs.l 0 (Sl.nil:Sl Z6)) fun s5_15=>on (s5_15) fun s5_4=>on (Z75_q a0 ([81,117,101,114,121]:Bs)) fun x6=>Option.bind (bif (a1&&(!x6.2)) then((appC 24 s5_4 (⟨false,[(Z6.mk (30:Int) ([81,117,101,114,121]:Bs))]⟩:Sl Z6)).bind fun x12=>some x12) else(some s5_4)) fun s5_8=>some s5_8
theorem Z73_eq (a0:TDoc) (a1:Bool):Z73 a0 a1=Z73_q a0 a1:=by
 unfold Z73 Z73_q;refine Qs ?_;refine Q.wrapOO fun Kb14 hKb14=>?_;refine Z73_l14_qe  Kb14 ?_ _ _ _ ⟨Nat.succ_pos _,by omega⟩;intro n14 s5_15 s6_16;refine Qe (hKb14 _) ?_;refine Q.wrapPO fun Kj3 hKj3=>?_;have hj3:∀(s5_4:(Sl Z6)),Z73_j3 a0 a1 s5_4=Kj3 s5_4:=by
  intro s5_4;refine Qe (hKj3 _) ?_;unfold Z73_j3;refine Q.bindPO (Z75_eq _ _) fun x6 hx_x6=>?_;refine Q.wrapOO fun Kj7 hKj7=>?_;have hj7:∀(s5_8:(Sl Z6)),Z73_j7  s5_8=Kj7 s5_8:=by
   intro s5_8;refine Qe (hKj7 _) ?_;unfold Z73_j7;all_goals rfl
  refine Q.condO ?_ ?_
  ·refine Q.bindO rfl fun x12=>?_;all_goals exact hj7 _
  all_goals exact hj7 _
 all_goals exact hj3 _
def Z99_q (a0:TDoc) (a1:Bs) (a2:Int):Int:=on (Z75_q a0 a1) fun x3=>on (bif (!x3.2) then Z79_q a1 else false) fun x6=>bif ((!x3.2)&&(!x6)) then((8:Int)) else(bif (!decide (x3.1.FKind=a2)) then((9:Int)) else((0:Int)))
theorem Z99_eq (a0:TDoc) (a1:Bs) (a2:Int):Z99 a0 a1 a2=some (Z99_q a0 a1 a2):=by
 unfold Z99 Z99_q;refine Q.bindP (Z75_eq _ _) fun x3 hx_x3=>?_;refine Q.guardP (Z79_eq _) fun x6 hx_x6=>?_;refine Q.condP ?_ ?_
 ·all_goals rfl
 refine Q.condP ?_ ?_
 ·all_goals rfl
 all_goals rfl
def Z98_q5 (a1:Bs):List Bs->Unit ⊕ Bool
 | []=>Sum.inl ()
 | h5::r5=>on (h5) fun x13=>bif ((x13==a1)) then(Sum.inr true) else(Z98_q5 a1 (r5) )
theorem Z98_l5_qe {a0:(Sl Bs)}{a1:Bs}  (Kb5:(Unit ⊕ Bool)->Option Bool) (hend:∀(n5:Nat) (s5_6:Nat),Z98_j2   =Kb5 (Sum.inl ())) (hret:∀e:Bool,some e=Kb5 (Sum.inr e)):∀(n5:Nat) (s5_6:Nat),(0<n5/\a0.l.length<s5_6+n5)->Z98_l5 a0 a1 n5 s5_6=Kb5 (Z98_q5 a1 (a0.l.drop s5_6) ):=by
 intro n5;induction n5 with
 | zero=>intro s5_6 hn; exact absurd hn.1 (by omega)
 | succ n5 ih5 =>
  intro s5_6 hn;rw [Z98_l5];by_cases hlt:s5_6<a0.l.length
  ·obtain⟨h5,hh5⟩:=Qa hlt;rw [Q.drop_of hh5,Z98_q5];refine QT hlt ?_;refine Q.bindP hh5 fun x13 hx_x13=>?_;refine Q.condP ?_ ?_
   ·all_goals exact hret _
   all_goals exact ih5 _ ⟨by omega,by omega⟩
  rw [dL (by omega),Z98_q5];refine QF hlt ?_;exact hend n5 s5_6
def Z98_q (a0:(Sl Bs)) (a1:Bs):Bool:=on (Z98_q5 a1 a0.l ) fun o5=>match o5 with|Sum.inl _=>(on (()) fun _=>false)|Sum.inr e5=>(e5)
theorem Z98_eq (a0:(Sl Bs)) (a1:Bs):Z98 a0 a1=some (Z98_q a0 a1):=by
 unfold Z98 Z98_q;refine Q.wrapPP fun Kb5 hKb5=>?_;refine Z98_l5_qe  Kb5 ?_ ?_ _ _ ⟨Nat.succ_pos _,by omega⟩
 ·intro n5 s5_6;refine Qe (hKb5 _) ?_;try dsimp only
  refine Q.wrapPP fun Kj2 hKj2=>?_;have hj2:Z98_j2  =Kj2 ():=by
   refine Qe (hKj2 _) ?_;unfold Z98_j2;all_goals rfl
  all_goals exact hj2
 intro e5;refine Qe (hKb5 _) ?_;try dsimp only
 all_goals rfl
def Z57_q11 (a1:(Sl Int)):List Int->Nat->Option (Unit ⊕ Bool)
 | [],s5_12=>some (Sum.inl ())
 | h11::r11,s5_12=>on (h11) fun x19=>(a1.l[s5_12]?).bind fun x20=>bif (!decide (x19=x20)) then(some (Sum.inr false)) else(Z57_q11 a1 (r11) (s5_12+1) )
theorem Z57_l11_qe {a0:(Sl Int)}{a1:(Sl Int)}  (Kb11:(Unit ⊕ Bool)->Option Bool) (hend:∀(n11:Nat) (s5_12:Nat),Z57_j8   =Kb11 (Sum.inl ())) (hret:∀e:Bool,some e=Kb11 (Sum.inr e)):∀(n11:Nat) (s5_12:Nat),(0<n11/\a0.l.length<s5_12+n11)->Z57_l11 a0 a1 n11 s5_12=Option.bind (Z57_q11 a1 (a0.l.drop s5_12) s5_12 ) Kb11:=by
 intro n11;induction n11 with
 | zero=>intro s5_12 hn; exact absurd hn.1 (by omega)
 | succ n11 ih11 =>
  intro s5_12 hn;rw [Z57_l11];by_cases hlt:s5_12<a0.l.length
  ·obtain⟨h11,hh11⟩:=Qa hlt;rw [Q.drop_of hh11,Z57_q11];refine QT hlt ?_;refine Q.bindPO hh11 fun x19 hx_x19=>?_;refine Q.bindO rfl fun x20=>?_;refine Q.condO ?_ ?_
   ·all_goals exact hret _
   all_goals exact ih11 _ ⟨by omega,by omega⟩
  rw [dL (by omega),Z57_q11];refine QF hlt ?_;exact hend n11 s5_12
def Z57_q (a0:(Sl Int)) (a1:(Sl Int)):Option Bool:=bif (!decide (((a0.l.length:Nat):Int)=((a1.l.length:Nat):Int))) then(some false) else(Option.bind (Z57_q11 a1 a0.l 0 ) fun o11=>match o11 with|Sum.inl _=>(on (()) fun _=>some true)|Sum.inr e11=>(some e11))
theorem Z57_eq (a0:(Sl Int)) (a1:(Sl Int)):Z57 a0 a1=Z57_q a0 a1:=by
 unfold Z57 Z57_q;refine Qs ?_;refine Q.condO ?_ ?_
 ·all_goals rfl
 refine Q.wrapOO fun Kb11 hKb11=>?_;refine Z57_l11_qe  Kb11 ?_ ?_ _ _ ⟨Nat.succ_pos _,by omega⟩
 ·intro n11 s5_12;refine Qe (hKb11 _) ?_;try dsimp only
  refine Q.wrapPO fun Kj8 hKj8=>?_;have hj8:Z57_j8  =Kj8 ():=by
   refine Qe (hKj8 _) ?_;unfold Z57_j8;all_goals rfl
  all_goals exact hj8
 intro e11;refine Qe (hKb11 _) ?_;try dsimp only
 all_goals rfl
def Z55_q (a0:TRef) (a1:TRef):Option Bool:=guardO (((a0.FName==a1.FName))) (Z57_q a0.FWraps a1.FWraps) false fun x3=>some (((a0.FName==a1.FName))&&x3)
theorem Z55_eq (a0:TRef) (a1:TRef):Z55 a0 a1=Z55_q a0 a1:=by
 unfold Z55 Z55_q;refine Qs ?_;refine Q.guardOO (Z57_eq _ _) fun x3=>?_;all_goals rfl
def Z52_q (a0:TRef):Bool:=on (bif (decide ((0:Int)<((a0.FWraps.l.length:Nat):Int))) then((a0.FWraps.l)[0]?.getD (0:Int)) else(0:Int)) fun x4=>((decide ((0:Int)<((a0.FWraps.l.length:Nat):Int)))&&(decide (x4=(1:Int))))
theorem Z52_eq (a0:TRef):Z52 a0=some (Z52_q a0):=by
 unfold Z52 Z52_q;refine Q.guardT (fun hc=>Q.getD_some (by simp at hc; omega)) fun x4 hx_x4=>?_;all_goals rfl
def Z56_q (a0:TRef):Option TRef:=(partC a0.FWraps (some (1:Int)) none).bind fun x3=>(appC 8 (⟨false,[]⟩:Sl Int) x3).bind fun x4=>some (TRef.mk a0.FName x4)
theorem Z56_eq (a0:TRef):Z56 a0=Z56_q a0:=by
 unfold Z56 Z56_q;refine Qs ?_;refine Q.bindO rfl fun x3=>?_;refine Q.bindO rfl fun x4=>?_;all_goals rfl
def Z53_q (a0:TRef):Option TRef:=on (Z52_q a0) fun x4=>bif x4 then((Z56_q a0).bind fun x7=>some x7) else((appC 8 (⟨false,[]⟩:Sl Int) a0.FWraps).bind fun x9=>some (TRef.mk a0.FName x9))
theorem Z53_eq (a0:TRef):Z53 a0=Z53_q a0:=by
 unfold Z53 Z53_q;refine Qs ?_;refine Q.bindPO (Z52_eq _) fun x4 hx_x4=>?_;refine Q.condO ?_ ?_
 ·refine Q.bindO (Z56_eq _) fun x7=>?_;all_goals rfl
 refine Q.bindO rfl fun x9=>?_;all_goals rfl
def Z51_q (a0:TRef):Option Bool:=(Z53_q a0).bind fun x3=>on (bif (decide ((0:Int)<((x3.FWraps.l.length:Nat):Int))) then((x3.FWraps.l)[0]?.getD (0:Int)) else(0:Int)) fun x6=>some ((decide ((0:Int)<((x3.FWraps.l.length:Nat):Int)))&&(decide (x6=(2:Int))))
theorem Z51_eq (a0:TRef):Z51 a0=Z51_q a0:=by
 unfold Z51 Z51_q;refine Qs ?_;refine Q.bindO (Z53_eq _) fun x3=>?_;refine Q.guardTO (fun hc=>Q.getD_some (by simp at hc; omega)) fun x6 hx_x6=>?_;all_goals rfl
def Z50_q (a0:TRef):Option (TRef×Bool):=(Z51_q a0).bind fun x4=>bif (!x4) then(some ((TRef.mk ([]:Bs) (Sl.nil:Sl Int)),false)) else((Z53_q a0).bind fun x8=>(Z56_q x8).bind fun x9=>some (x9,true))
theorem Z50_eq (a0:TRef):Z50 a0=Z50_q a0:=by
 unfold Z50 Z50_q;refine Qs ?_;refine Q.bindO (Z51_eq _) fun x4=>?_;refine Q.condO ?_ ?_
 ·all_goals rfl
 refine Q.bindO (Z53_eq _) fun x8=>?_;refine Q.bindO (Z56_eq _) fun x9=>?_;all_goals rfl
def Z100_q5 (a1:Bs):List Z10->Unit ⊕ Bool
 | []=>Sum.inl ()
 | h5::r5=>on (h5) fun x13=>bif ((x13.FName==a1)) then(Sum.inr true) else(Z100_q5 a1 (r5) )
theorem Z100_l5_qe {a0:TDef}{a1:Bs}  (Kb5:(Unit ⊕ Bool)->Option Bool) (hend:∀(n5:Nat) (s5_6:Nat),Z100_j2   =Kb5 (Sum.inl ())) (hret:∀e:Bool,some e=Kb5 (Sum.inr e)):∀(n5:Nat) (s5_6:Nat),(0<n5/\a0.FMembers.l.length<s5_6+n5)->Z100_l5 a0 a1 n5 s5_6=Kb5 (Z100_q5 a1 (a0.FMembers.l.drop s5_6) ):=by
 intro n5;induction n5 with
 | zero=>intro s5_6 hn; exact absurd hn.1 (by omega)
 | succ n5 ih5 =>
  intro s5_6 hn;rw [Z100_l5];by_cases hlt:s5_6<a0.FMembers.l.length
  ·obtain⟨h5,hh5⟩:=Qa hlt;rw [Q.drop_of hh5,Z100_q5];refine QT hlt ?_;refine Q.bindP hh5 fun x13 hx_x13=>?_;refine Q.condP ?_ ?_
   ·all_goals exact hret _
   all_goals exact ih5 _ ⟨by omega,by omega⟩
  rw [dL (by omega),Z100_q5];refine QF hlt ?_;exact hend n5 s5_6
def Z100_q (a0:TDef) (a1:Bs):Bool:=on (Z100_q5 a1 a0.FMembers.l ) fun o5=>match o5 with|Sum.inl _=>(on (()) fun _=>false)|Sum.inr e5=>(e5)
theorem Z100_eq (a0:TDef) (a1:Bs):Z100 a0 a1=some (Z100_q a0 a1):=by
 unfold Z100 Z100_q;refine Q.wrapPP fun Kb5 hKb5=>?_;refine Z100_l5_qe  Kb5 ?_ ?_ _ _ ⟨Nat.succ_pos _,by omega⟩
 ·intro n5 s5_6;refine Qe (hKb5 _) ?_;try dsimp only
  refine Q.wrapPP fun Kj2 hKj2=>?_;have hj2:Z100_j2  =Kj2 ():=by
   refine Qe (hKj2 _) ?_;unfold Z100_j2;all_goals rfl
  all_goals exact hj2
 intro e5;refine Qe (hKb5 _) ?_;try dsimp only
 all_goals rfl
def Z97_q (a0:TDoc) (a1:Int):Option Bool:=Z97 a0 a1
theorem Z97_eq (a0:TDoc) (a1:Int):Z97 a0 a1=Z97_q a0 a1:=rfl
def Z94_q9 (a0:TDoc) (a1:Bs) (x4:(TDef×Bool)):List TDef->Nat->(Sl Bs)->Option ((Sl Bs))
 | [],s8_11,s5_10=>some s5_10
 | h9::r9,s8_11,s5_10=>bif x4.2 then(on (h9) fun x19=>guardO (!(!decide (x19.FKind=(1:Int)))) (Z97_q a0 ((s8_11:Nat):Int)) false fun x22=>Option.bind (bif ((!decide (x19.FKind=(1:Int)))||(!x22)) then(some s5_10) else(on (bif (!((decide (x4.1.FKind=(1:Int)))&&((x19.FName==a1)))&&(decide (x4.1.FKind=(2:Int)))) then Z98_q x19.FImplements a1 else false) fun x26=>on (bif (!(((decide (x4.1.FKind=(1:Int)))&&((x19.FName==a1)))||((decide (x4.1.FKind=(2:Int)))&&x26))&&(decide (x4.1.FKind=(3:Int)))) then Z100_q x4.1 x19.FName else false) fun x28=>bif ((((decide (x4.1.FKind=(1:Int)))&&((x19.FName==a1)))||((decide (x4.1.FKind=(2:Int)))&&x26))||((decide (x4.1.FKind=(3:Int)))&&x28)) then((appC 16 s5_10 (⟨false,[x19.FName]⟩:Sl Bs)).bind fun x31=>some x31) else(some s5_10))) fun s5_17=>Z94_q9 a0 a1 x4 (r9) (s8_11+1) s5_17) else(some s5_10)
theorem Z94_l9_qe {a0:TDoc}{a1:Bs}{x4:(TDef×Bool)}  (Kb9:((Sl Bs))->Option (Sl Bs)) (hend:∀(n9:Nat) (s5_10:(Sl Bs)) (s8_11:Nat),Z94_j5   s5_10=Kb9 s5_10):∀(n9:Nat) (s5_10:(Sl Bs)) (s8_11:Nat),(0<n9/\a0.FDefs.l.length<s8_11+n9)->Z94_l9 a0 a1 x4 n9 s5_10 s8_11=Option.bind (Z94_q9 a0 a1 x4 (a0.FDefs.l.drop s8_11) s8_11 s5_10) Kb9:=by
 intro n9;induction n9 with
 | zero=>intro s5_10 s8_11 hn; exact absurd hn.1 (by omega)
 | succ n9 ih9 =>
  intro s5_10 s8_11 hn;rw [Z94_l9];by_cases hlt:s8_11<a0.FDefs.l.length
  ·obtain⟨h9,hh9⟩:=Qa hlt;rw [Q.drop_of hh9,Z94_q9];refine Q.condAT (Q.ltT hlt) ?_;refine Q.condO ?_ ?_
   ·refine Q.bindPO hh9 fun x19 hx_x19=>?_;refine Q.guardOO (Z97_eq _ _) fun x22=>?_;refine Q.wrapOO fun Kj16 hKj16=>?_;have hj16:∀(s5_17:(Sl Bs)),Z94_j16 s8_11 (Z94_l9 a0 a1 x4 n9) s5_17=Kj16 s5_17:=by
     intro s5_17;refine Qe (hKj16 _) ?_;unfold Z94_j16;all_goals exact ih9 _ _ ⟨by omega,by omega⟩
    refine Q.condO ?_ ?_
    ·all_goals exact hj16 _
    refine Q.guardPO (Z98_eq _ _) fun x26 hx_x26=>?_;refine Q.guardPO (Z100_eq _ _) fun x28 hx_x28=>?_;refine Q.condO ?_ ?_
    ·refine Q.bindO rfl fun x31=>?_;all_goals exact hj16 _
    all_goals exact hj16 _
   all_goals exact hend n9 s5_10 s8_11
  rw [dL (by omega),Z94_q9];refine Q.condAF (Q.ltF hlt) ?_;exact hend n9 s5_10 s8_11
def Z94_q (a0:TDoc) (a1:Bs):Option (Sl Bs):=on (Z75_q a0 a1) fun x4=>Option.bind (Z94_q9 a0 a1 x4 a0.FDefs.l 0 (Sl.nil:Sl Bs)) fun s5_10=>on (s5_10) fun s5_6=>some s5_6
theorem Z94_eq (a0:TDoc) (a1:Bs):Z94 a0 a1=Z94_q a0 a1:=by
 unfold Z94 Z94_q;refine Qs ?_;refine Q.bindPO (Z75_eq _ _) fun x4 hx_x4=>?_;refine Q.wrapOO fun Kb9 hKb9=>?_;refine Z94_l9_qe  Kb9 ?_ _ _ _ ⟨Nat.succ_pos _,by omega⟩;intro n9 s5_10 s8_11;refine Qe (hKb9 _) ?_;refine Q.wrapPO fun Kj5 hKj5=>?_;have hj5:∀(s5_6:(Sl Bs)),Z94_j5  s5_6=Kj5 s5_6:=by
  intro s5_6;refine Qe (hKj5 _) ?_;unfold Z94_j5;all_goals rfl
 all_goals exact hj5 _
def Z93_q (a0:TDoc) (a1:Bs) (a2:Bs):Option Bool:=(Z94_q a0 a2).bind fun x3=>on (Z98_q x3 a1) fun x4=>some x4
theorem Z93_eq (a0:TDoc) (a1:Bs) (a2:Bs):Z93 a0 a1 a2=Z93_q a0 a1 a2:=by
 unfold Z93 Z93_q;refine Qs ?_;refine Q.bindO (Z94_eq _ _) fun x3=>?_;refine Q.bindPO (Z98_eq _ _) fun x4 hx_x4=>?_;all_goals rfl
def Z95_qn:Nat->TDoc->TRef->TRef->Option Bool
 | 0,_,_,_=>none
 | n+1,a0,a1,a2=>on (Z52_q a2) fun x4=>bif x4 then(on (Z52_q a1) fun x7=>guardO (x7) (Z53_q a1) TRef.zero fun x8=>guardO (x7) (Z53_q a2) TRef.zero fun x9=>guardO (x7) ((Z95_qn n) a0 x8 x9) false fun x10=>some (x7&&x10)) else(on (Z52_q a1) fun x13=>bif x13 then((Z53_q a1).bind fun x16=>((Z95_qn n) a0 x16 a2).bind fun x17=>some x17) else((Z50_q a1).bind fun x19=>(Z50_q a2).bind fun x21=>bif (x19.2&&x21.2) then(((Z95_qn n) a0 x19.1 x21.1).bind fun x26=>some x26) else(guardO ((((!x19.2)&&(!x21.2))&&!((a1.FName==a2.FName)))) (Z93_q a0 a1.FName a2.FName) false fun x28=>some (((!x19.2)&&(!x21.2))&&(((a1.FName==a2.FName))||x28)))))
theorem Z95_qall:∀n:Nat,Z95_n n=Z95_qn n:=by
 intro n;induction n with
 | zero=>exact(by funext a0 a1 a2; first|rfl|(rw [Z95_n,Z95_qn]))
 | succ n ih =>
  funext a0 a1 a2
  refine Qs ?_;rw [Z95_n,Z95_qn];try rw [ih]
  refine Q.bindPO (Z52_eq _) fun x4 hx_x4=>?_;refine Q.condO ?_ ?_
  ·refine Q.bindPO (Z52_eq _) fun x7 hx_x7=>?_;refine Q.guardOO (Z53_eq _) fun x8=>?_;refine Q.guardOO (Z53_eq _) fun x9=>?_;refine Q.guardOO rfl fun x10=>?_;all_goals rfl
  refine Q.bindPO (Z52_eq _) fun x13 hx_x13=>?_;refine Q.condO ?_ ?_
  ·refine Q.bindO (Z53_eq _) fun x16=>?_;refine Q.bindO rfl fun x17=>?_;all_goals rfl
  refine Q.bindO (Z50_eq _) fun x19=>?_;refine Q.bindO (Z50_eq _) fun x21=>?_;refine Q.condO ?_ ?_
  ·refine Q.bindO rfl fun x26=>?_;all_goals rfl
  refine Q.guardOO (Z93_eq _ _ _) fun x28=>?_;all_goals rfl
def Z95_q (a0:TDoc) (a1:TRef) (a2:TRef):Option Bool:=Z95_qn F0 a0 a1 a2
theorem Z95_eq (a0:TDoc) (a1:TRef) (a2:TRef):Z95 a0 a1 a2=Z95_q a0 a1 a2:=by
 unfold Z95 Z95_q; rw [(Z95_qall F0)]
def Z96_q43 (x4:Bs) (x6:(Z7×Bool)):List Z9->(Sl Z6)->Option ((Sl Z6))
 | [],s10_44=>some s10_44
 | h43::r43,s10_44=>on (h43) fun x53=>on (Z76_q x6.1.FArgs x53.FName) fun x54=>on (bif !(!x54.2) then h43 else Z9.zero) fun x56=>guardO (!(!x54.2)) (Z55_q x54.1.FType x56.FType) false fun x57=>Option.bind (bif ((!x54.2)||(!x57)) then((catC x4 ([40]:Bs)).bind fun x59=>on (h43) fun x60=>(catC x59 x60.FName).bind fun x61=>(catC x61 ([41]:Bs)).bind fun x62=>(appC 24 s10_44 (⟨false,[(Z6.mk (22:Int) x62)]⟩:Sl Z6)).bind fun x63=>some x63) else(some s10_44)) fun s10_51=>Z96_q43 x4 x6 (r43) s10_51
theorem Z96_l43_qe {a2:Z7}{x4:Bs}{x6:(Z7×Bool)}  (Kb43:((Sl Z6))->Option (Sl Z6)) (hend:∀(n43:Nat) (s10_44:(Sl Z6)) (s11_45:Nat),Z96_j14 a2 x4 x6  s10_44=Kb43 s10_44):∀(n43:Nat) (s10_44:(Sl Z6)) (s11_45:Nat),(0<n43/\a2.FArgs.l.length<s11_45+n43)->Z96_l43 a2 x4 x6 n43 s10_44 s11_45=Option.bind (Z96_q43 x4 x6 (a2.FArgs.l.drop s11_45) s10_44) Kb43:=by
 intro n43;induction n43 with
 | zero=>intro s10_44 s11_45 hn; exact absurd hn.1 (by omega)
 | succ n43 ih43 =>
  intro s10_44 s11_45 hn;rw [Z96_l43];by_cases hlt:s11_45<a2.FArgs.l.length
  ·obtain⟨h43,hh43⟩:=Qa hlt;rw [Q.drop_of hh43,Z96_q43];refine QT hlt ?_;refine Q.bindPO hh43 fun x53 hx_x53=>?_;refine Q.bindPO (Z76_eq _ _) fun x54 hx_x54=>?_;refine Q.guardPO hh43 fun x56 hx_x56=>?_;refine Q.guardOO (Z55_eq _ _) fun x57=>?_;refine Q.wrapOO fun Kj50 hKj50=>?_;have hj50:∀(s10_51:(Sl Z6)),Z96_j50 s11_45 (Z96_l43 a2 x4 x6 n43) s10_51=Kj50 s10_51:=by
    intro s10_51;refine Qe (hKj50 _) ?_;unfold Z96_j50;all_goals exact ih43 _ _ ⟨by omega,by omega⟩
   refine Q.condO ?_ ?_
   ·refine Q.bindO rfl fun x59=>?_;refine Q.bindPO hh43 fun x60 hx_x60=>?_;refine Q.bindO rfl fun x61=>?_;refine Q.bindO rfl fun x62=>?_;refine Q.bindO rfl fun x63=>?_;all_goals exact hj50 _
   all_goals exact hj50 _
  rw [dL (by omega),Z96_q43];refine QF hlt ?_;exact hend n43 s10_44 s11_45
def Z96_q20 (a2:Z7) (x4:Bs):List Z9->(Sl Z6)->Option ((Sl Z6))
 | [],s10_21=>some s10_21
 | h20::r20,s10_21=>on (h20) fun x30=>on (Z76_q a2.FArgs x30.FName) fun x31=>on (bif (!x31.2) then h20 else Z9.zero) fun x33=>on (bif (!x31.2) then Z52_q x33.FType else false) fun x34=>on (bif ((!x31.2)&&x34) then h20 else Z9.zero) fun x35=>Option.bind (bif (((!x31.2)&&x34)&&(!x35.FHas)) then((catC x4 ([40]:Bs)).bind fun x37=>on (h20) fun x38=>(catC x37 x38.FName).bind fun x39=>(catC x39 ([41]:Bs)).bind fun x40=>(appC 24 s10_21 (⟨false,[(Z6.mk (22:Int) x40)]⟩:Sl Z6)).bind fun x41=>some x41) else(some s10_21)) fun s10_28=>Z96_q20 a2 x4 (r20) s10_28
theorem Z96_l20_qe {a2:Z7}{x4:Bs}{x6:(Z7×Bool)}  (Kb20:((Sl Z6))->Option (Sl Z6)) (hend:∀(n20:Nat) (s10_21:(Sl Z6)) (s14_22:Nat),Z96_j16   s10_21=Kb20 s10_21):∀(n20:Nat) (s10_21:(Sl Z6)) (s14_22:Nat),(0<n20/\x6.1.FArgs.l.length<s14_22+n20)->Z96_l20 a2 x4 x6 n20 s10_21 s14_22=Option.bind (Z96_q20 a2 x4 (x6.1.FArgs.l.drop s14_22) s10_21) Kb20:=by
 intro n20;induction n20 with
 | zero=>intro s10_21 s14_22 hn; exact absurd hn.1 (by omega)
 | succ n20 ih20 =>
  intro s10_21 s14_22 hn;rw [Z96_l20];by_cases hlt:s14_22<x6.1.FArgs.l.length
  ·obtain⟨h20,hh20⟩:=Qa hlt;rw [Q.drop_of hh20,Z96_q20];refine QT hlt ?_;refine Q.bindPO hh20 fun x30 hx_x30=>?_;refine Q.bindPO (Z76_eq _ _) fun x31 hx_x31=>?_;refine Q.guardPO hh20 fun x33 hx_x33=>?_;refine Q.guardPO (Z52_eq _) fun x34 hx_x34=>?_;refine Q.guardPO hh20 fun x35 hx_x35=>?_;refine Q.wrapOO fun Kj27 hKj27=>?_;have hj27:∀(s10_28:(Sl Z6)),Z96_j27 s14_22 (Z96_l20 a2 x4 x6 n20) s10_28=Kj27 s10_28:=by
    intro s10_28;refine Qe (hKj27 _) ?_;unfold Z96_j27;all_goals exact ih20 _ _ ⟨by omega,by omega⟩
   refine Q.condO ?_ ?_
   ·refine Q.bindO rfl fun x37=>?_;refine Q.bindPO hh20 fun x38 hx_x38=>?_;refine Q.bindO rfl fun x39=>?_;refine Q.bindO rfl fun x40=>?_;refine Q.bindO rfl fun x41=>?_;all_goals exact hj27 _
   all_goals exact hj27 _
  rw [dL (by omega),Z96_q20];refine QF hlt ?_;exact hend n20 s10_21 s14_22
def Z96_q (a0:TDoc) (a1:TDef) (a2:Z7):Option (Sl Z6):=(catC a1.FName ([46]:Bs)).bind fun x3=>(catC x3 a2.FName).bind fun x4=>on (Z74_q a1 a2.FName) fun x6=>bif (!x6.2) then(some (⟨false,[(Z6.mk (20:Int) x4)]⟩:Sl Z6)) else((Z95_q a0 x6.1.FType a2.FType).bind fun x65=>Option.bind (bif (!x65) then((appC 24 (Sl.nil:Sl Z6) (⟨false,[(Z6.mk (10:Int) x4)]⟩:Sl Z6)).bind fun x67=>some x67) else(some (Sl.nil:Sl Z6))) fun s10_13=>Option.bind (Z96_q43 x4 x6 a2.FArgs.l s10_13) fun s10_44=>on (s10_44) fun s10_15=>Option.bind (Z96_q20 a2 x4 x6.1.FArgs.l s10_15) fun s10_21=>on (s10_21) fun s10_17=>some s10_17)
theorem Z96_eq (a0:TDoc) (a1:TDef) (a2:Z7):Z96 a0 a1 a2=Z96_q a0 a1 a2:=by
 unfold Z96 Z96_q;refine Qs ?_;refine Q.bindO rfl fun x3=>?_;refine Q.bindO rfl fun x4=>?_;refine Q.bindPO (Z74_eq _ _) fun x6 hx_x6=>?_;refine Q.condO ?_ ?_
 ·all_goals rfl
 refine Q.bindO (Z95_eq _ _ _) fun x65=>?_;refine Q.wrapOO fun Kj12 hKj12=>?_;have hj12:∀(s10_13:(Sl Z6)),Z96_j12 a2 x4 x6 s10_13=Kj12 s10_13:=by
  intro s10_13;refine Qe (hKj12 _) ?_;unfold Z96_j12;refine Q.wrapOO fun Kb43 hKb43=>?_;refine Z96_l43_qe  Kb43 ?_ _ _ _ ⟨Nat.succ_pos _,by omega⟩;intro n43 s10_44 s11_45;refine Qe (hKb43 _) ?_;refine Q.wrapPO fun Kj14 hKj14=>?_;have hj14:∀(s10_15:(Sl Z6)),Z96_j14 a2 x4 x6 s10_15=Kj14 s10_15:=by
   intro s10_15;refine Qe (hKj14 _) ?_;unfold Z96_j14;refine Q.wrapOO fun Kb20 hKb20=>?_;refine Z96_l20_qe  Kb20 ?_ _ _ _ ⟨Nat.succ_pos _,by omega⟩;intro n20 s10_21 s14_22;refine Qe (hKb20 _) ?_;refine Q.wrapPO fun Kj16 hKj16=>?_;have hj16:∀(s10_17:(Sl Z6)),Z96_j16  s10_17=Kj16 s10_17:=by
    intro s10_17;refine Qe (hKj16 _) ?_;unfold Z96_j16;all_goals rfl
   all_goals exact hj16 _
  all_goals exact hj14 _
 refine Q.condO ?_ ?_
 ·refine Q.bindO rfl fun x67=>?_;all_goals exact hj12 _
 all_goals exact hj12 _
def Z101_q30 (a0:TDoc) (a1:TDef):List Z7->(Sl Z6)->Option ((Sl Z6))
 | [],s5_31=>some s5_31
 | h30::r30,s5_31=>on (h30) fun x38=>(Z96_q a0 a1 x38).bind fun x39=>(appC 24 s5_31 x39).bind fun x40=>Z101_q30 a0 a1 (r30) x40
theorem Z101_l30_qe {a0:TDoc}{a1:TDef}{s6_9:Nat}{x28:(TDef×Bool)}{k_next_7:(Sl Z6)->Nat->Option (Sl Z6)}  (Kb30:((Sl Z6))->Option (Sl Z6)) (hend:∀(n30:Nat) (s5_31:(Sl Z6)) (s10_32:Nat),Z101_j14 s6_9 k_next_7 s5_31=Kb30 s5_31):∀(n30:Nat) (s5_31:(Sl Z6)) (s10_32:Nat),(0<n30/\x28.1.FFields.l.length<s10_32+n30)->Z101_l30 a0 a1 s6_9 x28 k_next_7 n30 s5_31 s10_32=Option.bind (Z101_q30 a0 a1 (x28.1.FFields.l.drop s10_32) s5_31) Kb30:=by
 intro n30;induction n30 with
 | zero=>intro s5_31 s10_32 hn; exact absurd hn.1 (by omega)
 | succ n30 ih30 =>
  intro s5_31 s10_32 hn;rw [Z101_l30];by_cases hlt:s10_32<x28.1.FFields.l.length
  ·obtain⟨h30,hh30⟩:=Qa hlt;rw [Q.drop_of hh30,Z101_q30];refine QT hlt ?_;refine Q.bindPO hh30 fun x38 hx_x38=>?_;refine Q.bindO (Z96_eq _ _ _) fun x39=>?_;refine Q.bindO rfl fun x40=>?_;all_goals exact ih30 _ _ ⟨by omega,by omega⟩
  rw [dL (by omega),Z101_q30];refine QF hlt ?_;exact hend n30 s5_31 s10_32
def Z101_q7 (a0:TDoc) (a1:TDef):List Bs->Nat->(Sl Z6)->Option ((Sl Z6))
 | [],s6_9,s5_8=>some s5_8
 | h7::r7,s6_9,s5_8=>on (h7) fun x17=>on (Z99_q a0 x17 (2:Int)) fun x18=>on (bif (decide (x18=(0:Int))) then(⟨a1.FImplements.nl,a1.FImplements.l.take s6_9⟩:Sl Bs) else(Sl.nil:Sl Bs)) fun x42=>on (bif (decide (x18=(0:Int))) then h7 else([]:Bs)) fun x43=>on (bif (decide (x18=(0:Int))) then Z98_q x42 x43 else false) fun x44=>on (bif ((decide (x18=(0:Int)))&&x44) then((7:Int)) else(x18)) fun s7_20=>Option.bind (bif (!decide (s7_20=(0:Int))) then((appC 24 s5_8 (⟨false,[(Z6.mk s7_20 a1.FName)]⟩:Sl Z6)).bind fun x25=>some x25) else(on (h7) fun x27=>on (Z75_q a0 x27) fun x28=>Option.bind (Z101_q30 a0 a1 x28.1.FFields.l s5_8) fun s5_31=>some s5_31)) fun s5_15=>Z101_q7 a0 a1 (r7) (s6_9+1) s5_15
theorem Z101_l7_qe {a0:TDoc}{a1:TDef}  (Kb7:((Sl Z6))->Option (Sl Z6)) (hend:∀(n7:Nat) (s5_8:(Sl Z6)) (s6_9:Nat),Z101_j3   s5_8=Kb7 s5_8):∀(n7:Nat) (s5_8:(Sl Z6)) (s6_9:Nat),(0<n7/\a1.FImplements.l.length<s6_9+n7)->Z101_l7 a0 a1 n7 s5_8 s6_9=Option.bind (Z101_q7 a0 a1 (a1.FImplements.l.drop s6_9) s6_9 s5_8) Kb7:=by
 intro n7;induction n7 with
 | zero=>intro s5_8 s6_9 hn; exact absurd hn.1 (by omega)
 | succ n7 ih7 =>
  intro s5_8 s6_9 hn;rw [Z101_l7];by_cases hlt:s6_9<a1.FImplements.l.length
  ·obtain⟨h7,hh7⟩:=Qa hlt;rw [Q.drop_of hh7,Z101_q7];refine QT hlt ?_;refine Q.bindPO hh7 fun x17 hx_x17=>?_;refine Q.bindPO (Z99_eq _ _ _) fun x18 hx_x18=>?_;refine Q.guardPO (Q.partC_take (by omega)) fun x42 hx_x42=>?_;refine Q.guardPO hh7 fun x43 hx_x43=>?_;refine Q.guardPO (Z98_eq _ _) fun x44 hx_x44=>?_;refine Q.wrapPO fun Kj19 hKj19=>?_;have hj19:∀(s7_20:Int),Z101_j19 a0 a1 s5_8 s6_9 (Z101_l7 a0 a1 n7) s7_20=Kj19 s7_20:=by
    intro s7_20;refine Qe (hKj19 _) ?_;unfold Z101_j19;refine Q.wrapOO fun Kj14 hKj14=>?_;have hj14:∀(s5_15:(Sl Z6)),Z101_j14 s6_9 (Z101_l7 a0 a1 n7) s5_15=Kj14 s5_15:=by
     intro s5_15;refine Qe (hKj14 _) ?_;unfold Z101_j14;all_goals exact ih7 _ _ ⟨by omega,by omega⟩
    refine Q.condO ?_ ?_
    ·refine Q.bindO rfl fun x25=>?_;all_goals exact hj14 _
    refine Q.bindPO hh7 fun x27 hx_x27=>?_;refine Q.bindPO (Z75_eq _ _) fun x28 hx_x28=>?_;refine Q.wrapOO fun Kb30 hKb30=>?_;refine Z101_l30_qe  Kb30 ?_ _ _ _ ⟨Nat.succ_pos _,by omega⟩;intro n30 s5_31 s10_32;refine Qe (hKb30 _) ?_;all_goals exact hj14 _
   refine Q.condP ?_ ?_
   ·all_goals exact hj19 _
   all_goals exact hj19 _
  rw [dL (by omega),Z101_q7];refine QF hlt ?_;exact hend n7 s5_8 s6_9
def Z101_q (a0:TDoc) (a1:TDef):Option (Sl Z6):=Option.bind (Z101_q7 a0 a1 a1.FImplements.l 0 (Sl.nil:Sl Z6)) fun s5_8=>on (s5_8) fun s5_4=>some s5_4
theorem Z101_eq (a0:TDoc) (a1:TDef):Z101 a0 a1=Z101_q a0 a1:=by
 unfold Z101 Z101_q;refine Qs ?_;refine Q.wrapOO fun Kb7 hKb7=>?_;refine Z101_l7_qe  Kb7 ?_ _ _ _ ⟨Nat.succ_pos _,by omega⟩;intro n7 s5_8 s6_9;refine Qe (hKb7 _) ?_;refine Q.wrapPO fun Kj3 hKj3=>?_;have hj3:∀(s5_4:(Sl Z6)),Z101_j3  s5_4=Kj3 s5_4:=by
  intro s5_4;refine Qe (hKj3 _) ?_;unfold Z101_j3;all_goals rfl
 all_goals exact hj3 _
def Z102_q7 (a0:TDoc) (a1:TDef):List Z10->Nat->(Sl Z6)->Option ((Sl Z6))
 | [],s6_9,s5_8=>some s5_8
 | h7::r7,s6_9,s5_8=>on (h7) fun x17=>on (Z99_q a0 x17.FName (1:Int)) fun x19=>on (bif (decide (x19=(0:Int))) then(⟨a1.FMembers.nl,a1.FMembers.l.take s6_9⟩:Sl Z10) else(Sl.nil:Sl Z10)) fun x28=>on (bif (decide (x19=(0:Int))) then Z100_q (TDef.mk (0:Int) ([]:Bs) (Sl.nil:Sl Bs) (Sl.nil:Sl TDir) (Sl.nil:Sl Z7) x28 (Sl.nil:Sl Z9)) x17.FName else false) fun x29=>on (bif ((decide (x19=(0:Int)))&&x29) then((7:Int)) else(x19)) fun s8_21=>Option.bind (bif (!decide (s8_21=(0:Int))) then((catC a1.FName ([46]:Bs)).bind fun x24=>(catC x24 x17.FName).bind fun x25=>(appC 24 s5_8 (⟨false,[(Z6.mk s8_21 x25)]⟩:Sl Z6)).bind fun x26=>some x26) else(some s5_8)) fun s5_15=>Z102_q7 a0 a1 (r7) (s6_9+1) s5_15
theorem Z102_l7_qe {a0:TDoc}{a1:TDef}  (Kb7:((Sl Z6))->Option (Sl Z6)) (hend:∀(n7:Nat) (s5_8:(Sl Z6)) (s6_9:Nat),Z102_j3   s5_8=Kb7 s5_8):∀(n7:Nat) (s5_8:(Sl Z6)) (s6_9:Nat),(0<n7/\a1.FMembers.l.length<s6_9+n7)->Z102_l7 a0 a1 n7 s5_8 s6_9=Option.bind (Z102_q7 a0 a1 (a1.FMembers.l.drop s6_9) s6_9 s5_8) Kb7:=by
 intro n7;induction n7 with
 | zero=>intro s5_8 s6_9 hn; exact absurd hn.1 (by omega)
 | succ n7 ih7 =>
  intro s5_8 s6_9 hn;rw [Z102_l7];by_cases hlt:s6_9<a1.FMembers.l.length
  ·obtain⟨h7,hh7⟩:=Qa hlt;rw [Q.drop_of hh7,Z102_q7];refine QT hlt ?_;refine Q.bindPO hh7 fun x17 hx_x17=>?_;refine Q.bindPO (Z99_eq _ _ _) fun x19 hx_x19=>?_;refine Q.guardPO (Q.partC_take (by omega)) fun x28 hx_x28=>?_;refine Q.guardPO (Z100_eq _ _) fun x29 hx_x29=>?_;refine Q.wrapPO fun Kj20 hKj20=>?_;have hj20:∀(s8_21:Int),Z102_j20 a1 s5_8 s6_9 x17 (Z102_l7 a0 a1 n7) s8_21=Kj20 s8_21:=by
    intro s8_21;refine Qe (hKj20 _) ?_;unfold Z102_j20;refine Q.wrapOO fun Kj14 hKj14=>?_;have hj14:∀(s5_15:(Sl Z6)),Z102_j14 s6_9 (Z102_l7 a0 a1 n7) s5_15=Kj14 s5_15:=by
     intro s5_15;refine Qe (hKj14 _) ?_;unfold Z102_j14;all_goals exact ih7 _ _ ⟨by omega,by omega⟩
    refine Q.condO ?_ ?_
    ·refine Q.bindO rfl fun x24=>?_;refine Q.bindO rfl fun x25=>?_;refine Q.bindO rfl fun x26=>?_;all_goals exact hj14 _
    all_goals exact hj14 _
   refine Q.condP ?_ ?_
   ·all_goals exact hj20 _
   all_goals exact hj20 _
  rw [dL (by omega),Z102_q7];refine QF hlt ?_;exact hend n7 s5_8 s6_9
def Z102_q (a0:TDoc) (a1:TDef):Option (Sl Z6):=Option.bind (Z102_q7 a0 a1 a1.FMembers.l 0 (Sl.nil:Sl Z6)) fun s5_8=>on (s5_8) fun s5_4=>some s5_4
theorem Z102_eq (a0:TDoc) (a1:TDef):Z102 a0 a1=Z102_q a0 a1:=by
 unfold Z102 Z102_q;refine Qs ?_;refine Q.wrapOO fun Kb7 hKb7=>?_;refine Z102_l7_qe  Kb7 ?_ _ _ _ ⟨Nat.succ_pos _,by omega⟩;intro n7 s5_8 s6_9;refine Qe (hKb7 _) ?_;refine Q.wrapPO fun Kj3 hKj3=>?_;have hj3:∀(s5_4:(Sl Z6)),Z102_j3  s5_4=Kj3 s5_4:=by
  intro s5_4;refine Qe (hKj3 _) ?_;unfold Z102_j3;all_goals rfl
 all_goals exact hj3 _
end Go.Proofs

namespace Go.Proofs
open Go Go.Ab
def Z92_q7 (a0:TDoc):List TDef->(Sl Z6)->Option ((Sl Z6))
 | [],s3_8=>some s3_8
 | h7::r7,s3_8=>on (h7) fun x17=>Option.bind (bif (decide (x17.FKind=(1:Int))) then(on (h7) fun x20=>(Z101_q a0 x20).bind fun x21=>(appC 24 s3_8 x21).bind fun x22=>some x22) else(bif (decide (x17.FKind=(3:Int))) then(on (h7) fun x25=>(Z102_q a0 x25).bind fun x26=>(appC 24 s3_8 x26).bind fun x27=>some x27) else(some s3_8))) fun s3_15=>Z92_q7 a0 (r7) s3_15
theorem Z92_l7_qe {a0:TDoc}  (Kb7:((Sl Z6))->Option (Sl Z6)) (hend:∀(n7:Nat) (s3_8:(Sl Z6)) (s4_9:Nat),Z92_j3   s3_8=Kb7 s3_8):∀(n7:Nat) (s3_8:(Sl Z6)) (s4_9:Nat),(0<n7/\a0.FDefs.l.length<s4_9+n7)->Z92_l7 a0 n7 s3_8 s4_9=Option.bind (Z92_q7 a0 (a0.FDefs.l.drop s4_9) s3_8) Kb7:=by
 intro n7;induction n7 with
 | zero=>intro s3_8 s4_9 hn; exact absurd hn.1 (by omega)
 | succ n7 ih7 =>
  intro s3_8 s4_9 hn;rw [Z92_l7];by_cases hlt:s4_9<a0.FDefs.l.length
  ·obtain⟨h7,hh7⟩:=Qa hlt;rw [Q.drop_of hh7,Z92_q7];refine QT hlt ?_;refine Q.bindPO hh7 fun x17 hx_x17=>?_;refine Q.wrapOO fun Kj14 hKj14=>?_;have hj14:∀(s3_15:(Sl Z6)),Z92_j14 s4_9 (Z92_l7 a0 n7) s3_15=Kj14 s3_15:=by
    intro s3_15;refine Qe (hKj14 _) ?_;unfold Z92_j14;all_goals exact ih7 _ _ ⟨by omega,by omega⟩
   refine Q.condO ?_ ?_
   ·refine Q.bindPO hh7 fun x20 hx_x20=>?_;refine Q.bindO (Z101_eq _ _) fun x21=>?_;refine Q.bindO rfl fun x22=>?_;all_goals exact hj14 _
   refine Q.condO ?_ ?_
   ·refine Q.bindPO hh7 fun x25 hx_x25=>?_;refine Q.bindO (Z102_eq _ _) fun x26=>?_;refine Q.bindO rfl fun x27=>?_;all_goals exact hj14 _
   all_goals exact hj14 _
  rw [dL (by omega),Z92_q7];refine QF hlt ?_;exact hend n7 s3_8 s4_9
def Z92_q (a0:TDoc):Option (Sl Z6):=Option.bind (Z92_q7 a0 a0.FDefs.l (Sl.nil:Sl Z6)) fun s3_8=>on (s3_8) fun s3_4=>some s3_4
theorem Z92_eq (a0:TDoc):Z92 a0=Z92_q a0:=by
 unfold Z92 Z92_q;refine Qs ?_;refine Q.wrapOO fun Kb7 hKb7=>?_;refine Z92_l7_qe  Kb7 ?_ _ _ _ ⟨Nat.succ_pos _,by omega⟩;intro n7 s3_8 s4_9;refine Qe (hKb7 _) ?_;refine Q.wrapPO fun Kj3 hKj3=>?_;have hj3:∀(s3_4:(Sl Z6)),Z92_j3  s3_4=Kj3 s3_4:=by
  intro s3_4;refine Qe (hKj3 _) ?_;unfold Z92_j3;all_goals rfl
 all_goals exact hj3 _
def Z46_q7 (k_rec_316:Z12->Option Z12):List Z12->(Sl Z12)->Option ((Sl Z12))
 | [],s3_8=>some s3_8
 | h7::r7,s3_8=>on (h7) fun x15=>(k_rec_316 x15).bind fun x16=>(appC 80 s3_8 (⟨false,[x16]⟩:Sl Z12)).bind fun x17=>Z46_q7 k_rec_316 (r7) x17
theorem Z46_l7_qe {a0:(Sl Z12)}{k_rec_316:Z12->Option Z12}  (Kb7:((Sl Z12))->Option (Sl Z12)) (hend:∀(n7:Nat) (s3_8:(Sl Z12)) (s4_9:Nat),Z46_j3   s3_8=Kb7 s3_8):∀(n7:Nat) (s3_8:(Sl Z12)) (s4_9:Nat),(0<n7/\a0.l.length<s4_9+n7)->Z46_l7 a0 k_rec_316 n7 s3_8 s4_9=Option.bind (Z46_q7 k_rec_316 (a0.l.drop s4_9) s3_8) Kb7:=by
 intro n7;induction n7 with
 | zero=>intro s3_8 s4_9 hn; exact absurd hn.1 (by omega)
 | succ n7 ih7 =>
  intro s3_8 s4_9 hn;rw [Z46_l7];by_cases hlt:s4_9<a0.l.length
  ·obtain⟨h7,hh7⟩:=Qa hlt;rw [Q.drop_of hh7,Z46_q7];refine QT hlt ?_;refine Q.bindPO hh7 fun x15 hx_x15=>?_;refine Q.bindO rfl fun x16=>?_;refine Q.bindO rfl fun x17=>?_;all_goals exact ih7 _ _ ⟨by omega,by omega⟩
  rw [dL (by omega),Z46_q7];refine QF hlt ?_;exact hend n7 s3_8 s4_9
mutual
def r02_Copy_qn:Nat->Z12->Option Z12
 | 0,_=>none
 | n+1,a0=>((Z46_qn n) a0.FItems).bind fun x3=>(appC 16 (⟨false,[]⟩:Sl Bs) a0.FKeys).bind fun x4=>some (Z12.mk a0.FKind a0.FInt a0.FText x3.nl x3.l x4)
def Z46_qn:Nat->(Sl Z12)->Option (Sl Z12)
 | 0,_=>none
 | n+1,a0=>Option.bind (Z46_q7 (r02_Copy_qn n) a0.l (Sl.nil:Sl Z12)) fun s3_8=>on (s3_8) fun s3_4=>some s3_4
end
theorem r02_Copy_qall:∀n:Nat,r02_Copy_n n=r02_Copy_qn n/\Z46_n n=Z46_qn n:=by
 intro n;induction n with
 | zero=>exact⟨(by funext a0; first|rfl|(rw [r02_Copy_n,r02_Copy_qn])),(by funext a0; first|rfl|(rw [Z46_n,Z46_qn]))⟩
 | succ n ih =>
  refine⟨?_, ?_⟩
  ·funext a0
   refine Qs ?_;rw [r02_Copy_n,r02_Copy_qn];try rw [ih.1]
   try rw [ih.2]
   refine Q.bindO rfl fun x3=>?_;refine Q.bindO rfl fun x4=>?_;all_goals rfl
  funext a0
  refine Qs ?_;rw [Z46_n,Z46_qn];try rw [ih.1]
  try rw [ih.2]
  refine Q.wrapOO fun Kb7 hKb7=>?_;refine Z46_l7_qe  Kb7 ?_ _ _ _ ⟨Nat.succ_pos _,by omega⟩;intro n7 s3_8 s4_9;refine Qe (hKb7 _) ?_;refine Q.wrapPO fun Kj3 hKj3=>?_;have hj3:∀(s3_4:(Sl Z12)),Z46_j3  s3_4=Kj3 s3_4:=by
   intro s3_4;refine Qe (hKj3 _) ?_;unfold Z46_j3;all_goals rfl
  all_goals exact hj3 _
def r02_Copy_q (a0:Z12):Option Z12:=r02_Copy_qn F0 a0
theorem r02_Copy_eq (a0:Z12):r02_Copy a0=r02_Copy_q a0:=by
 unfold r02_Copy r02_Copy_q; rw [(r02_Copy_qall F0).1]
def Z43_q10 (a0:Z12) (a1:Bs):List Bs->Nat->Option (Unit ⊕ ((Z12×Bool)))
 | [],s6_11=>some (Sum.inl ())
 | h10::r10,s6_11=>on (h10) fun x19=>bif ((x19==a1)) then(bif (decide (((a0.FItems.l.length:Nat):Int)<=((s6_11:Nat):Int))) then(some (Sum.inr ((Z12.mk (0:Int) (0:Int) ([]:Bs) true ([]) (Sl.nil:Sl Bs)),false))) else((a0.FItems.l[s6_11]?).bind fun x27=>(r02_Copy_q x27).bind fun x28=>some (Sum.inr (x28,true)))) else(Z43_q10 a0 a1 (r10) (s6_11+1) )
theorem Z43_l10_qe {a0:Z12}{a1:Bs}  (Kb10:(Unit ⊕ ((Z12×Bool)))->Option (Z12×Bool)) (hend:∀(n10:Nat) (s6_11:Nat) (y12_l0:Z12),Z43_j6   y12_l0=Kb10 (Sum.inl ())) (hret:∀e:(Z12×Bool),some e=Kb10 (Sum.inr e)):∀(n10:Nat) (s6_11:Nat) (y12_l0:Z12),(0<n10/\a0.FKeys.l.length<s6_11+n10)->Z43_l10 a0 a1 n10 s6_11 y12_l0=Option.bind (Z43_q10 a0 a1 (a0.FKeys.l.drop s6_11) s6_11 ) Kb10:=by
 intro n10;induction n10 with
 | zero=>intro s6_11 y12_l0 hn; exact absurd hn.1 (by omega)
 | succ n10 ih10 =>
  intro s6_11 y12_l0 hn;rw [Z43_l10];by_cases hlt:s6_11<a0.FKeys.l.length
  ·obtain⟨h10,hh10⟩:=Qa hlt;rw [Q.drop_of hh10,Z43_q10];refine QT hlt ?_;refine Q.bindPO hh10 fun x19 hx_x19=>?_;refine Q.condO ?_ ?_
   ·refine Q.condO ?_ ?_
    ·all_goals exact hret _
    refine Q.bindO rfl fun x27=>?_;refine Q.bindO (r02_Copy_eq _) fun x28=>?_;all_goals exact hret _
   all_goals exact ih10 _ _ ⟨by omega,by omega⟩
  rw [dL (by omega),Z43_q10];refine QF hlt ?_;exact hend n10 s6_11 y12_l0
def Z43_q (a0:Z12) (a1:Bs):Option (Z12×Bool):=bif (!decide (a0.FKind=(6:Int))) then(some ((Z12.mk (0:Int) (0:Int) ([]:Bs) true ([]) (Sl.nil:Sl Bs)),false)) else(Option.bind (Z43_q10 a0 a1 a0.FKeys.l 0 ) fun o10=>match o10 with|Sum.inl _=>(on (()) fun _=>some ((Z12.mk (0:Int) (0:Int) ([]:Bs) true ([]) (Sl.nil:Sl Bs)),false))|Sum.inr e10=>(some e10))
theorem Z43_eq (a0:Z12) (a1:Bs):Z43 a0 a1=Z43_q a0 a1:=by
 unfold Z43 Z43_q;refine Qs ?_;refine Q.condO ?_ ?_
 ·all_goals rfl
 refine Q.wrapOO fun Kb10 hKb10=>?_;refine Z43_l10_qe  Kb10 ?_ ?_ _ _ _ ⟨Nat.succ_pos _,by omega⟩
 ·intro n10 s6_11 y12_l0;refine Qe (hKb10 _) ?_;try dsimp only
  refine Q.wrapPO fun Kj6 hKj6=>?_;have hj6:∀(y7_l0:Z12),Z43_j6  y7_l0=Kj6 ():=by
   intro y7_l0;refine Qe (hKj6 _) ?_;unfold Z43_j6;all_goals rfl
  all_goals exact hj6 _
 intro e10;refine Qe (hKb10 _) ?_;try dsimp only
 all_goals rfl
def Z109_q (a0:Z4) (a1:Z12):Option Bool:=bif ((!a0.Flit)||(!decide (a1.FKind=(7:Int)))) then(some false) else((Z43_q a0.Fvars a1.FText).bind fun x7=>some (!x7.2))
theorem Z109_eq (a0:Z4) (a1:Z12):Z109 a0 a1=Z109_q a0 a1:=by
 unfold Z109 Z109_q;refine Qs ?_;refine Q.condO ?_ ?_
 ·all_goals rfl
 refine Q.bindO (Z43_eq _ _) fun x7=>?_;all_goals rfl
def Z108_q (a0:Z4) (a1:Int):Z4:=bif (decide (a0.Ferr=(0:Int))) then((Z4.mk a0.Fd a0.Fvars a0.Flit a0.Fcount a1)) else(a0)
theorem Z108_eq (a0:Z4) (a1:Int):Z108 a0 a1=some (Z108_q a0 a1):=by
 unfold Z108 Z108_q;refine Q.condP ?_ ?_
 ·all_goals rfl
 all_goals rfl
def Z110_q (a0:Z4) (a1:Int):Option Z4:=on (bif (decide ((24:Int)<a1)) then(on (Z108_q a0 (5:Int)) fun x10=>x10) else(a0)) fun y2_c0=>(addC y2_c0.Fcount (1:Int)).bind fun x4=>bif (decide ((4096:Int)<x4)) then(on (Z108_q (Z4.mk y2_c0.Fd y2_c0.Fvars y2_c0.Flit x4 y2_c0.Ferr) (4:Int)) fun x7=>some x7) else(some (Z4.mk y2_c0.Fd y2_c0.Fvars y2_c0.Flit x4 y2_c0.Ferr))
theorem Z110_eq (a0:Z4) (a1:Int):Z110 a0 a1=Z110_q a0 a1:=by
 unfold Z110 Z110_q;refine Qs ?_;refine Q.wrapPO fun Kj1 hKj1=>?_;have hj1:∀(y2_c0:Z4),Z110_j1  y2_c0=Kj1 y2_c0:=by
  intro y2_c0;refine Qe (hKj1 _) ?_;unfold Z110_j1;refine Q.bindO rfl fun x4=>?_;refine Q.condO ?_ ?_
  ·refine Q.bindPO (Z108_eq _ _) fun x7 hx_x7=>?_;all_goals rfl
  all_goals rfl
 refine Q.condP ?_ ?_
 ·refine Q.bindP (Z108_eq _ _) fun x10 hx_x10=>?_;all_goals exact hj1 _
 all_goals exact hj1 _
def Z114_q14 (a2:Int) (k_rec_318:Z4->Z12->Int->Option (Z12×Z4)):List Z12->Z4->Z12->Option ((Z4×Z12))
 | [],y16_c0,y17_l1=>some (y16_c0,y17_l1)
 | h14::r14,y16_c0,y17_l1=>bif (decide (y16_c0.Ferr=(0:Int))) then(on (h14) fun x24=>(addC a2 (1:Int)).bind fun x25=>(k_rec_318 y16_c0 x24 x25).bind fun x26=>(appC 80 y17_l1.FItems (⟨false,[x26.1]⟩:Sl Z12)).bind fun x27=>Z114_q14 a2 k_rec_318 (r14) x26.2 (Z12.mk y17_l1.FKind y17_l1.FInt y17_l1.FText x27.nl x27.l y17_l1.FKeys)) else(some (y16_c0,y17_l1))
theorem Z114_l14_qe {a1:Z12}{a2:Int}{k_rec_318:Z4->Z12->Int->Option (Z12×Z4)}  (Kb14:((Z4×Z12))->Option (Z12×Z4)) (hend:∀(n14:Nat) (s8_15:Nat) (y16_c0:Z4) (y17_l1:Z12),Z114_j9   y16_c0 y17_l1=Kb14 (y16_c0,y17_l1)):∀(n14:Nat) (s8_15:Nat) (y16_c0:Z4) (y17_l1:Z12),(0<n14/\a1.FItems.l.length<s8_15+n14)->Z114_l14 a1 a2 k_rec_318 n14 s8_15 y16_c0 y17_l1=Option.bind (Z114_q14 a2 k_rec_318 (a1.FItems.l.drop s8_15) y16_c0 y17_l1) Kb14:=by
 intro n14;induction n14 with
 | zero=>intro s8_15 y16_c0 y17_l1 hn; exact absurd hn.1 (by omega)
 | succ n14 ih14 =>
  intro s8_15 y16_c0 y17_l1 hn;rw [Z114_l14];by_cases hlt:s8_15<a1.FItems.l.length
  ·obtain⟨h14,hh14⟩:=Qa hlt;rw [Q.drop_of hh14,Z114_q14];refine Q.condAT (Q.ltT hlt) ?_;refine Q.condO ?_ ?_
   ·refine Q.bindPO hh14 fun x24 hx_x24=>?_;refine Q.bindO rfl fun x25=>?_;refine Q.bindO rfl fun x26=>?_;refine Q.bindO rfl fun x27=>?_;all_goals exact ih14 _ _ _ ⟨by omega,by omega⟩
   all_goals exact hend n14 s8_15 y16_c0 y17_l1
  rw [dL (by omega),Z114_q14];refine Q.condAF (Q.ltF hlt) ?_;exact hend n14 s8_15 y16_c0 y17_l1
def Z114_qn:Nat->Z4->Z12->Int->Option (Z12×Z4)
 | 0,_,_,_=>none
 | n+1,a0,a1,a2=>(Z110_q a0 a2).bind fun x3=>(appC 16 ((Z12.mk a1.FKind a1.FInt a1.FText true ([]) (Sl.nil:Sl Bs)).FKeys) a1.FKeys).bind fun x8=>Option.bind (Z114_q14 a2 (Z114_qn n) a1.FItems.l x3 (Z12.mk ((Z12.mk a1.FKind a1.FInt a1.FText true ([]) (Sl.nil:Sl Bs)).FKind) ((Z12.mk a1.FKind a1.FInt a1.FText true ([]) (Sl.nil:Sl Bs)).FInt) ((Z12.mk a1.FKind a1.FInt a1.FText true ([]) (Sl.nil:Sl Bs)).FText) ((Z12.mk a1.FKind a1.FInt a1.FText true ([]) (Sl.nil:Sl Bs)).FItems).nl ((Z12.mk a1.FKind a1.FInt a1.FText true ([]) (Sl.nil:Sl Bs)).FItems).l x8)) fun z14=>on ((z14.1,z14.2)) fun z9=>some (z9.2,z9.1)
theorem Z114_qall:∀n:Nat,Z114_n n=Z114_qn n:=by
 intro n;induction n with
 | zero=>exact(by funext a0 a1 a2; first|rfl|(rw [Z114_n,Z114_qn]))
 | succ n ih =>
  funext a0 a1 a2
  refine Qs ?_;rw [Z114_n,Z114_qn];try rw [ih]
  refine Q.bindO (Z110_eq _ _) fun x3=>?_;refine Q.bindO rfl fun x8=>?_;refine Q.wrapOO fun Kb14 hKb14=>?_;refine Z114_l14_qe  Kb14 ?_ _ _ _ _ ⟨Nat.succ_pos _,by omega⟩;intro n14 s8_15 y16_c0 y17_l1;refine Qe (hKb14 _) ?_;try dsimp only
  refine Q.wrapPO fun Kj9 hKj9=>?_;have hj9:∀(y10_c0:Z4) (y11_l1:Z12),Z114_j9  y10_c0 y11_l1=Kj9 (y10_c0,y11_l1):=by
   intro y10_c0 y11_l1;refine Qe (hKj9 _) ?_;try dsimp only
   unfold Z114_j9;all_goals rfl
  all_goals exact hj9 _ _
def Z114_q (a0:Z4) (a1:Z12) (a2:Int):Option (Z12×Z4):=Z114_qn F0 a0 a1 a2
theorem Z114_eq (a0:Z4) (a1:Z12) (a2:Int):Z114 a0 a1 a2=Z114_q a0 a1 a2:=by
 unfold Z114 Z114_q; rw [(Z114_qall F0)]
def Z40_qn:Nat->Int->Option Bs
 | 0,_=>none
 | n+1,a0=>(subC (48:Int) (Int.tmod a0 (10:Int))).bind fun x3=>bif (decide ((-10:Int)<a0)) then(some (bytesC (⟨false,[(IntKind.wrap .u8 x3)]⟩:Sl Int))) else(((Z40_qn n) (IntKind.wrap .i64 (Int.tdiv a0 (10:Int)))).bind fun x9=>(catC x9 (bytesC (⟨false,[(IntKind.wrap .u8 x3)]⟩:Sl Int))).bind fun x10=>some x10)
theorem Z40_qall:∀n:Nat,Z40_n n=Z40_qn n:=by
 intro n;induction n with
 | zero=>exact(by funext a0; first|rfl|(rw [Z40_n,Z40_qn]))
 | succ n ih =>
  funext a0
  refine Qs ?_;rw [Z40_n,Z40_qn];try rw [ih]
  refine Q.bindO rfl fun x3=>?_;refine Q.condO ?_ ?_
  ·all_goals rfl
  refine Q.bindO rfl fun x9=>?_;refine Q.bindO rfl fun x10=>?_;all_goals rfl
def Z40_q (a0:Int):Option Bs:=Z40_qn F0 a0
theorem Z40_eq (a0:Int):Z40 a0=Z40_q a0:=by
 unfold Z40 Z40_q; rw [(Z40_qall F0)]
def Z36_q (a0:Int):Option Bs:=bif (decide (a0<(0:Int))) then((Z40_q a0).bind fun x6=>(catC ([45]:Bs) x6).bind fun x7=>some x7) else((Z40_q (IntKind.wrap .i64 (0-a0))).bind fun x9=>some x9)
theorem Z36_eq (a0:Int):Z36 a0=Z36_q a0:=by
 unfold Z36 Z36_q;refine Qs ?_;refine Q.condO ?_ ?_
 ·refine Q.bindO (Z40_eq _) fun x6=>?_;refine Q.bindO rfl fun x7=>?_;all_goals rfl
 refine Q.bindO (Z40_eq _) fun x9=>?_;all_goals rfl
def Z113_q (a0:Z4) (a1:Bs) (a2:Z12):Option (Z12×Z4):=bif (((((a1==([73,110,116]:Bs)))&&(decide (a2.FKind=(2:Int))))&&(decide ((-2147483648:Int)<=a2.FInt)))&&(decide (a2.FInt<(2147483648:Int)))) then(some (a2,a0)) else(on (bif (((a1==([83,116,114,105,110,103]:Bs)))&&(decide (a2.FKind=(3:Int)))) then((((a1==([83,116,114,105,110,103]:Bs)))&&(decide (a2.FKind=(3:Int))))) else(bif (((a1==([66,111,111,108,101,97,110]:Bs)))&&(decide (a2.FKind=(1:Int)))) then((((a1==([66,111,111,108,101,97,110]:Bs)))&&(decide (a2.FKind=(1:Int))))) else((((a1==([73,68]:Bs)))&&(decide (a2.FKind=(3:Int))))))) fun s26_11=>bif s26_11 then(some (a2,a0)) else(bif (((a1==([73,68]:Bs)))&&(decide (a2.FKind=(2:Int)))) then((Z36_q a2.FInt).bind fun x17=>some ((Z12.mk (3:Int) (0:Int) x17 true ([]) (Sl.nil:Sl Bs)),a0)) else(on (()) fun _=>on (Z108_q a0 (23:Int)) fun x5=>some ((Z12.mk (0:Int) (0:Int) ([]:Bs) true ([]) (Sl.nil:Sl Bs)),x5))))
theorem Z113_eq (a0:Z4) (a1:Bs) (a2:Z12):Z113 a0 a1 a2=Z113_q a0 a1 a2:=by
 unfold Z113 Z113_q;refine Qs ?_;refine Q.condO ?_ ?_
 ·all_goals rfl
 refine Q.wrapPO fun Kj10 hKj10=>?_;have hj10:∀(s26_11:Bool),Z113_j10 a0 a1 a2 s26_11=Kj10 s26_11:=by
  intro s26_11;refine Qe (hKj10 _) ?_;unfold Z113_j10;refine Q.condO ?_ ?_
  ·all_goals rfl
  refine Q.condO ?_ ?_
  ·refine Q.bindO (Z36_eq _) fun x17=>?_;all_goals rfl
  refine Q.wrapPO fun Kj2 hKj2=>?_;have hj2:∀(y3_l0:Z12),Z113_j2 a0 y3_l0=Kj2 ():=by
   intro y3_l0;refine Qe (hKj2 _) ?_;unfold Z113_j2;refine Q.bindPO (Z108_eq _ _) fun x5 hx_x5=>?_;all_goals rfl
  all_goals exact hj2 _
 refine Q.condP ?_ ?_
 ·all_goals exact hj10 _
 refine Q.condP ?_ ?_
 ·all_goals exact hj10 _
 all_goals exact hj10 _
def Z107_q10 (a0:Z4) (a2:Z12):List Z10->Unit ⊕ ((Z12×Z4))
 | []=>Sum.inl ()
 | h10::r10=>on (h10) fun x19=>bif ((x19.FName==a2.FText)) then(Sum.inr ((Z12.mk (4:Int) (0:Int) a2.FText true ([]) (Sl.nil:Sl Bs)),a0)) else(Z107_q10 a0 a2 (r10) )
theorem Z107_l10_qe {a0:Z4}{a1:TDef}{a2:Z12}  (Kb10:(Unit ⊕ ((Z12×Z4)))->Option (Z12×Z4)) (hend:∀(n10:Nat) (s7_11:Nat) (y12_l0:Z12),Z107_j2 a0  y12_l0=Kb10 (Sum.inl ())) (hret:∀e:(Z12×Z4),some e=Kb10 (Sum.inr e)):∀(n10:Nat) (s7_11:Nat) (y12_l0:Z12),(0<n10/\a1.FMembers.l.length<s7_11+n10)->Z107_l10 a0 a1 a2 n10 s7_11 y12_l0=Kb10 (Z107_q10 a0 a2 (a1.FMembers.l.drop s7_11) ):=by
 intro n10;induction n10 with
 | zero=>intro s7_11 y12_l0 hn; exact absurd hn.1 (by omega)
 | succ n10 ih10 =>
  intro s7_11 y12_l0 hn;rw [Z107_l10];by_cases hlt:s7_11<a1.FMembers.l.length
  ·obtain⟨h10,hh10⟩:=Qa hlt;rw [Q.drop_of hh10,Z107_q10];refine QT hlt ?_;refine Q.bindP hh10 fun x19 hx_x19=>?_;refine Q.condP ?_ ?_
   ·all_goals exact hret _
   all_goals exact ih10 _ _ ⟨by omega,by omega⟩
  rw [dL (by omega),Z107_q10];refine QF hlt ?_;exact hend n10 s7_11 y12_l0
def Z107_q (a0:Z4) (a1:TDef) (a2:Z12):(Z12×Z4):=on (fun(_:Unit)=>on (Z108_q a0 (23:Int)) fun x5=>((Z12.mk (0:Int) (0:Int) ([]:Bs) true ([]) (Sl.nil:Sl Bs)),x5)) fun kj2=>bif ((decide (a2.FKind=(4:Int)))||((decide (a2.FKind=(3:Int)))&&(!a0.Flit))) then(on (Z107_q10 a0 a2 a1.FMembers.l ) fun o10=>match o10 with|Sum.inl _=>(kj2 ())|Sum.inr e10=>(e10)) else(kj2 ())
theorem Z107_eq (a0:Z4) (a1:TDef) (a2:Z12):Z107 a0 a1 a2=some (Z107_q a0 a1 a2):=by
 unfold Z107 Z107_q;refine Q.mixP fun kj2 hkj2=>?_;have hj2:∀(y3_l0:Z12),Z107_j2 a0 y3_l0=some (kj2 ()):=by
  intro y3_l0;unfold Z107_j2;rw [hkj2];try dsimp only
  refine Q.bindP (Z108_eq _ _) fun x5 hx_x5=>?_;all_goals rfl
 refine Q.condP ?_ ?_
 ·refine Q.wrapPP fun Kb10 hKb10=>?_;refine Z107_l10_qe  Kb10 ?_ ?_ _ _ _ ⟨Nat.succ_pos _,by omega⟩
  ·intro n10 s7_11 y12_l0;refine Qe (hKb10 _) ?_;try dsimp only
   all_goals exact hj2 _
  intro e10;refine Qe (hKb10 _) ?_;try dsimp only
  all_goals rfl
 all_goals exact hj2 _
def Z106_q (a0:(Sl Z9)) (a1:Int):Option Bool:=Z106 a0 a1
theorem Z106_eq (a0:(Sl Z9)) (a1:Int):Z106 a0 a1=Z106_q a0 a1:=rfl
def r12_work_list_q12 (a1:TRef) (a3:Int) (k_rec_266:Z4->TRef->Z12->Int->Option (Z12×Z4)):List Z12->Z4->Z12->Option ((Z4×Z12))
 | [],y14_c0,y15_l1=>some (y14_c0,y15_l1)
 | h12::r12,y14_c0,y15_l1=>bif (decide (y14_c0.Ferr=(0:Int))) then(on (h12) fun x22=>(addC a3 (1:Int)).bind fun x23=>(k_rec_266 y14_c0 a1 x22 x23).bind fun x24=>(appC 80 y15_l1.FItems (⟨false,[x24.1]⟩:Sl Z12)).bind fun x25=>r12_work_list_q12 a1 a3 k_rec_266 (r12) x24.2 (Z12.mk y15_l1.FKind y15_l1.FInt y15_l1.FText x25.nl x25.l y15_l1.FKeys)) else(some (y14_c0,y15_l1))
theorem r12_work_list_l12_qe {a1:TRef}{a3:Int}{s9_4:(Sl Z12)}{k_rec_266:Z4->TRef->Z12->Int->Option (Z12×Z4)}  (Kb12:((Z4×Z12))->Option (Z12×Z4)) (hend:∀(n12:Nat) (s11_13:Nat) (y14_c0:Z4) (y15_l1:Z12),r12_work_list_j7   y14_c0 y15_l1=Kb12 (y14_c0,y15_l1)):∀(n12:Nat) (s11_13:Nat) (y14_c0:Z4) (y15_l1:Z12),(0<n12/\s9_4.l.length<s11_13+n12)->r12_work_list_l12 a1 a3 s9_4 k_rec_266 n12 s11_13 y14_c0 y15_l1=Option.bind (r12_work_list_q12 a1 a3 k_rec_266 (s9_4.l.drop s11_13) y14_c0 y15_l1) Kb12:=by
 intro n12;induction n12 with
 | zero=>intro s11_13 y14_c0 y15_l1 hn; exact absurd hn.1 (by omega)
 | succ n12 ih12 =>
  intro s11_13 y14_c0 y15_l1 hn;rw [r12_work_list_l12];by_cases hlt:s11_13<s9_4.l.length
  ·obtain⟨h12,hh12⟩:=Qa hlt;rw [Q.drop_of hh12,r12_work_list_q12];refine Q.condAT (Q.ltT hlt) ?_;refine Q.condO ?_ ?_
   ·refine Q.bindPO hh12 fun x22 hx_x22=>?_;refine Q.bindO rfl fun x23=>?_;refine Q.bindO rfl fun x24=>?_;refine Q.bindO rfl fun x25=>?_;all_goals exact ih12 _ _ _ ⟨by omega,by omega⟩
   all_goals exact hend n12 s11_13 y14_c0 y15_l1
  rw [dL (by omega),r12_work_list_q12];refine Q.condAF (Q.ltF hlt) ?_;exact hend n12 s11_13 y14_c0 y15_l1
def r12_work_object_q58 (a1:TDef):List Bs->Z4->Z4
 | [],y60_c0=>y60_c0
 | h58::r58,y60_c0=>on (h58) fun x68=>on (Z76_q a1.FInputs x68) fun x69=>on (bif (!x69.2) then(on (Z108_q y60_c0 (22:Int)) fun x72=>x72) else(y60_c0)) fun y66_c0=>r12_work_object_q58 a1 (r58) y66_c0
theorem r12_work_object_l58_qe {a1:TDef}{a2:Z12}{a3:Int}{k_rec_266:Z4->TRef->Z12->Int->Option (Z12×Z4)}{k_rec_348:Z4->TRef->Z12->Int->Option (Z12×Z4)}  (Kb58:(Z4)->Option (Z12×Z4)) (hend:∀(n58:Nat) (s9_59:Nat) (y60_c0:Z4),r12_work_object_j8 a1 a2 a3 k_rec_266 k_rec_348 y60_c0=Kb58 y60_c0):∀(n58:Nat) (s9_59:Nat) (y60_c0:Z4),(0<n58/\a2.FKeys.l.length<s9_59+n58)->r12_work_object_l58 a1 a2 a3 k_rec_266 k_rec_348 n58 s9_59 y60_c0=Kb58 (r12_work_object_q58 a1 (a2.FKeys.l.drop s9_59) y60_c0):=by
 intro n58;induction n58 with
 | zero=>intro s9_59 y60_c0 hn; exact absurd hn.1 (by omega)
 | succ n58 ih58 =>
  intro s9_59 y60_c0 hn;rw [r12_work_object_l58];by_cases hlt:s9_59<a2.FKeys.l.length
  ·obtain⟨h58,hh58⟩:=Qa hlt;rw [Q.drop_of hh58,r12_work_object_q58];refine QT hlt ?_;refine Q.bindP hh58 fun x68 hx_x68=>?_;refine Q.bindP (Z76_eq _ _) fun x69 hx_x69=>?_;refine Q.wrapPP fun Kj65 hKj65=>?_;have hj65:∀(y66_c0:Z4),r12_work_object_j65 s9_59 (r12_work_object_l58 a1 a2 a3 k_rec_266 k_rec_348 n58) y66_c0=Kj65 y66_c0:=by
    intro y66_c0;refine Qe (hKj65 _) ?_;unfold r12_work_object_j65;all_goals exact ih58 _ _ ⟨by omega,by omega⟩
   refine Q.condP ?_ ?_
   ·refine Q.bindP (Z108_eq _ _) fun x72 hx_x72=>?_;all_goals exact hj65 _
   all_goals exact hj65 _
  rw [dL (by omega),r12_work_object_q58];refine QF hlt ?_;exact hend n58 s9_59 y60_c0
def r12_work_object_q18 (a1:TDef) (a2:Z12) (a3:Int) (k_rec_266:Z4->TRef->Z12->Int->Option (Z12×Z4)) (k_rec_348:Z4->TRef->Z12->Int->Option (Z12×Z4)):List Z9->Nat->Z4->Z12->Option ((Z4×Z12))
 | [],s13_19,y20_c0,y21_l1=>some (y20_c0,y21_l1)
 | h18::r18,s13_19,y20_c0,y21_l1=>bif (decide (y20_c0.Ferr=(0:Int))) then(on (h18) fun x30=>(Z106_q a1.FInputs ((s13_19:Nat):Int)).bind fun x33=>Option.bind (bif x33 then(some (y20_c0,y21_l1)) else((Z43_q a2 x30.FName).bind fun x36=>guardO (x36.2) (Z109_q y20_c0 x36.1) false fun x45=>on (fun(y39_c0:Z4) (y40_l2:Z12)=>(appC 16 y21_l1.FKeys (⟨false,[x30.FName]⟩:Sl Bs)).bind fun x42=>(appC 80 y21_l1.FItems (⟨false,[y40_l2]⟩:Sl Z12)).bind fun x43=>some (y39_c0,(Z12.mk y21_l1.FKind y21_l1.FInt y21_l1.FText x43.nl x43.l x42))) fun kj38=>bif (x36.2&&(!x45)) then((addC a3 (1:Int)).bind fun x47=>(k_rec_266 y20_c0 x30.FType x36.1 x47).bind fun x48=>kj38 x48.2 x48.1) else(bif x30.FHas then((addC a3 (1:Int)).bind fun x51=>(k_rec_348 y20_c0 x30.FType x30.FDefault x51).bind fun x52=>kj38 x52.2 x52.1) else(on (Z52_q x30.FType) fun x54=>bif x54 then(on (Z108_q y20_c0 (22:Int)) fun x56=>kj38 x56 Z12.zero) else(some (y20_c0,y21_l1)))))) fun z26=>r12_work_object_q18 a1 a2 a3 k_rec_266 k_rec_348 (r18) (s13_19+1) z26.1 z26.2) else(some (y20_c0,y21_l1))
theorem r12_work_object_l18_qe {a1:TDef}{a2:Z12}{a3:Int}{k_rec_266:Z4->TRef->Z12->Int->Option (Z12×Z4)}{k_rec_348:Z4->TRef->Z12->Int->Option (Z12×Z4)}  (Kb18:((Z4×Z12))->Option (Z12×Z4)) (hend:∀(n18:Nat) (s13_19:Nat) (y20_c0:Z4) (y21_l1:Z12),r12_work_object_j13   y20_c0 y21_l1=Kb18 (y20_c0,y21_l1)):∀(n18:Nat) (s13_19:Nat) (y20_c0:Z4) (y21_l1:Z12),(0<n18/\a1.FInputs.l.length<s13_19+n18)->r12_work_object_l18 a1 a2 a3 k_rec_266 k_rec_348 n18 s13_19 y20_c0 y21_l1=Option.bind (r12_work_object_q18 a1 a2 a3 k_rec_266 k_rec_348 (a1.FInputs.l.drop s13_19) s13_19 y20_c0 y21_l1) Kb18:=by
 intro n18;induction n18 with
 | zero=>intro s13_19 y20_c0 y21_l1 hn; exact absurd hn.1 (by omega)
 | succ n18 ih18 =>
  intro s13_19 y20_c0 y21_l1 hn;rw [r12_work_object_l18];by_cases hlt:s13_19<a1.FInputs.l.length
  ·obtain⟨h18,hh18⟩:=Qa hlt;rw [Q.drop_of hh18,r12_work_object_q18];refine Q.condAT (Q.ltT hlt) ?_;refine Q.condO ?_ ?_
   ·refine Q.bindPO hh18 fun x30 hx_x30=>?_;refine Q.bindO (Z106_eq _ _) fun x33=>?_;refine Q.wrapOO fun Kj26 hKj26=>?_;have hj26:∀(y27_c0:Z4) (y28_l1:Z12),r12_work_object_j26 s13_19 (r12_work_object_l18 a1 a2 a3 k_rec_266 k_rec_348 n18) y27_c0 y28_l1=Kj26 (y27_c0,y28_l1):=by
     intro y27_c0 y28_l1;refine Qe (hKj26 _) ?_;try dsimp only
     unfold r12_work_object_j26;all_goals exact ih18 _ _ _ ⟨by omega,by omega⟩
    refine Q.condO ?_ ?_
    ·all_goals exact hj26 _ _
    refine Q.bindO (Z43_eq _ _) fun x36=>?_;refine Q.guardOO (Z109_eq _ _) fun x45=>?_;refine Q.mixO fun kj38 hkj38=>?_;have hj38:∀(y39_c0:Z4) (y40_l2:Z12),r12_work_object_j38 s13_19 y21_l1 x30 (r12_work_object_l18 a1 a2 a3 k_rec_266 k_rec_348 n18) y39_c0 y40_l2=Option.bind (kj38 y39_c0 y40_l2) Kj26:=by
     intro y39_c0 y40_l2;unfold r12_work_object_j38;rw [hkj38];try dsimp only
     refine Q.bindO rfl fun x42=>?_;refine Q.bindO rfl fun x43=>?_;all_goals exact hj26 _ _
    refine Q.condO ?_ ?_
    ·refine Q.bindO rfl fun x47=>?_;refine Q.bindO rfl fun x48=>?_;all_goals exact hj38 _ _
    refine Q.condO ?_ ?_
    ·refine Q.bindO rfl fun x51=>?_;refine Q.bindO rfl fun x52=>?_;all_goals exact hj38 _ _
    refine Q.bindPO (Z52_eq _) fun x54 hx_x54=>?_;refine Q.condO ?_ ?_
    ·refine Q.bindPO (Z108_eq _ _) fun x56 hx_x56=>?_;all_goals exact hj38 _ _
    all_goals exact hj26 _ _
   all_goals exact hend n18 s13_19 y20_c0 y21_l1
  rw [dL (by omega),r12_work_object_q18];refine Q.condAF (Q.ltF hlt) ?_;exact hend n18 s13_19 y20_c0 y21_l1
mutual
def r12_work_coerce_qn:Nat->Z4->TRef->Z12->Int->Option (Z12×Z4)
 | 0,_,_,_,_=>none
 | n+1,a0,a1,a2,a3=>on (Z77_q a0.Fd a1.FName) fun x4=>bif (!x4) then(on (Z108_q a0 (10:Int)) fun x7=>some ((Z12.mk (0:Int) (0:Int) ([]:Bs) true ([]) (Sl.nil:Sl Bs)),x7)) else(on (fun(y10_c0:Z4) (y11_l0:Z12)=>(Z110_q y10_c0 a3).bind fun x14=>bif (!decide (x14.Ferr=(0:Int))) then(some ((Z12.mk (0:Int) (0:Int) ([]:Bs) true ([]) (Sl.nil:Sl Bs)),x14)) else(bif (decide (y11_l0.FKind=(0:Int))) then(on (Z52_q a1) fun x26=>on (bif x26 then(on (Z108_q x14 (23:Int)) fun x28=>x28) else(x14)) fun y23_c0=>some ((Z12.mk (0:Int) (0:Int) ([]:Bs) true ([]) (Sl.nil:Sl Bs)),y23_c0)) else((Z50_q a1).bind fun x31=>bif x31.2 then(((r12_work_list_qn n) x14 x31.1 y11_l0 a3).bind fun x35=>some (x35.1,x35.2)) else(on (Z79_q a1.FName) fun x38=>bif x38 then((Z113_q x14 a1.FName y11_l0).bind fun x41=>some (x41.1,x41.2)) else(on (Z75_q x14.Fd a1.FName) fun x43=>bif (decide (x43.1.FKind=(4:Int))) then(on (Z107_q x14 x43.1 y11_l0) fun x48=>some (x48.1,x48.2)) else(((r12_work_object_qn n) x14 x43.1 y11_l0 a3).bind fun x50=>some (x50.1,x50.2))))))) fun kj9=>bif (a0.Flit&&(decide (a2.FKind=(7:Int)))) then((Z43_q a0.Fvars a2.FText).bind fun x54=>bif (!decide (x54.1.FKind=(0:Int))) then((Z114_q a0 x54.1 a3).bind fun x59=>some (x59.1,x59.2)) else(kj9 a0 (Z12.mk (0:Int) (0:Int) ([]:Bs) true ([]) (Sl.nil:Sl Bs)))) else(kj9 a0 a2))
def r12_work_list_qn:Nat->Z4->TRef->Z12->Int->Option (Z12×Z4)
 | 0,_,_,_,_=>none
 | n+1,a0,a1,a2,a3=>on (bif (decide (a2.FKind=(5:Int))) then(a2.FItems) else((⟨false,[a2]⟩:Sl Z12))) fun s9_4=>Option.bind (r12_work_list_q12 a1 a3 (r12_work_coerce_qn n) s9_4.l a0 (Z12.mk (5:Int) (0:Int) ([]:Bs) true ([]) (Sl.nil:Sl Bs))) fun z12=>on ((z12.1,z12.2)) fun z7=>some (z7.2,z7.1)
def r12_work_object_qn:Nat->Z4->TDef->Z12->Int->Option (Z12×Z4)
 | 0,_,_,_,_=>none
 | n+1,a0,a1,a2,a3=>bif (!decide (a2.FKind=(6:Int))) then(on (Z108_q a0 (23:Int)) fun x6=>some ((Z12.mk (0:Int) (0:Int) ([]:Bs) true ([]) (Sl.nil:Sl Bs)),x6)) else(on (r12_work_object_q58 a1 a2.FKeys.l a0) fun y60_c0=>on (y60_c0) fun y9_c0=>Option.bind (r12_work_object_q18 a1 a2 a3 (r12_work_coerce_qn n) (Z111_qn n) a1.FInputs.l 0 y9_c0 (Z12.mk (6:Int) (0:Int) ([]:Bs) true ([]) (Sl.nil:Sl Bs))) fun z18=>on ((z18.1,z18.2)) fun z13=>some (z13.2,z13.1))
def Z111_qn:Nat->Z4->TRef->Z12->Int->Option (Z12×Z4)
 | 0,_,_,_,_=>none
 | n+1,a0,a1,a2,a3=>((r12_work_coerce_qn n) (Z4.mk a0.Fd (Z12.mk (0:Int) (0:Int) ([]:Bs) true ([]) (Sl.nil:Sl Bs)) true a0.Fcount a0.Ferr) a1 a2 a3).bind fun x5=>some (x5.1,(Z4.mk x5.2.Fd a0.Fvars a0.Flit x5.2.Fcount x5.2.Ferr))
end
theorem r12_work_coerce_qall:∀n:Nat,r12_work_coerce_n n=r12_work_coerce_qn n/\r12_work_list_n n=r12_work_list_qn n/\r12_work_object_n n=r12_work_object_qn n/\Z111_n n=Z111_qn n:=by
 intro n;induction n with
 | zero=>exact⟨(by funext a0 a1 a2 a3; first|rfl|(rw [r12_work_coerce_n,r12_work_coerce_qn])),(by funext a0 a1 a2 a3; first|rfl|(rw [r12_work_list_n,r12_work_list_qn])),(by funext a0 a1 a2 a3; first|rfl|(rw [r12_work_object_n,r12_work_object_qn])),(by funext a0 a1 a2 a3; first|rfl|(rw [Z111_n,Z111_qn]))⟩
 | succ n ih =>
  refine⟨?_, ?_, ?_, ?_⟩
  ·funext a0 a1 a2 a3
   refine Qs ?_;rw [r12_work_coerce_n,r12_work_coerce_qn];try rw [ih.1]
   try rw [ih.2.1]
   try rw [ih.2.2.1]
   try rw [ih.2.2.2]
   refine Q.bindPO (Z77_eq _ _) fun x4 hx_x4=>?_;refine Q.condO ?_ ?_
   ·refine Q.bindPO (Z108_eq _ _) fun x7 hx_x7=>?_;all_goals rfl
   refine Q.mixO fun kj9 hkj9=>?_;have hj9:∀(y10_c0:Z4) (y11_l0:Z12) (y12_l1:Z12),r12_work_coerce_j9 a1 a3 (r12_work_list_qn n) (r12_work_object_qn n) y10_c0 y11_l0 y12_l1=Option.bind (kj9 y10_c0 y11_l0) some:=by
    intro y10_c0 y11_l0 y12_l1;unfold r12_work_coerce_j9;rw [hkj9];try dsimp only
    refine Q.bindO (Z110_eq _ _) fun x14=>?_;refine Q.condO ?_ ?_
    ·all_goals rfl
    refine Q.condO ?_ ?_
    ·refine Q.bindPO (Z52_eq _) fun x26 hx_x26=>?_;refine Q.wrapPO fun Kj22 hKj22=>?_;have hj22:∀(y23_c0:Z4),r12_work_coerce_j22  y23_c0=Kj22 y23_c0:=by
      intro y23_c0;refine Qe (hKj22 _) ?_;unfold r12_work_coerce_j22;all_goals rfl
     refine Q.condP ?_ ?_
     ·refine Q.bindP (Z108_eq _ _) fun x28 hx_x28=>?_;all_goals exact hj22 _
     all_goals exact hj22 _
    refine Q.bindO (Z50_eq _) fun x31=>?_;refine Q.condO ?_ ?_
    ·refine Q.bindO rfl fun x35=>?_;all_goals rfl
    refine Q.bindPO (Z79_eq _) fun x38 hx_x38=>?_;refine Q.condO ?_ ?_
    ·refine Q.bindO (Z113_eq _ _ _) fun x41=>?_;all_goals rfl
    refine Q.bindPO (Z75_eq _ _) fun x43 hx_x43=>?_;refine Q.condO ?_ ?_
    ·refine Q.bindPO (Z107_eq _ _ _) fun x48 hx_x48=>?_;all_goals rfl
    refine Q.bindO rfl fun x50=>?_;all_goals rfl
   refine Q.condO ?_ ?_
   ·refine Q.bindO (Z43_eq _ _) fun x54=>?_;refine Q.condO ?_ ?_
    ·refine Q.bindO (Z114_eq _ _ _) fun x59=>?_;all_goals rfl
    all_goals exact hj9 _ _ _
   all_goals exact hj9 _ _ _
  ·funext a0 a1 a2 a3
   refine Qs ?_;rw [r12_work_list_n,r12_work_list_qn];try rw [ih.1]
   try rw [ih.2.1]
   try rw [ih.2.2.1]
   try rw [ih.2.2.2]
   refine Q.wrapPO fun Kj3 hKj3=>?_;have hj3:∀(s9_4:(Sl Z12)),r12_work_list_j3 a0 a1 a3 (r12_work_coerce_qn n) s9_4=Kj3 s9_4:=by
    intro s9_4;refine Qe (hKj3 _) ?_;unfold r12_work_list_j3;refine Q.wrapOO fun Kb12 hKb12=>?_;refine r12_work_list_l12_qe  Kb12 ?_ _ _ _ _ ⟨Nat.succ_pos _,by omega⟩;intro n12 s11_13 y14_c0 y15_l1;refine Qe (hKb12 _) ?_;try dsimp only
    refine Q.wrapPO fun Kj7 hKj7=>?_;have hj7:∀(y8_c0:Z4) (y9_l1:Z12),r12_work_list_j7  y8_c0 y9_l1=Kj7 (y8_c0,y9_l1):=by
     intro y8_c0 y9_l1;refine Qe (hKj7 _) ?_;try dsimp only
     unfold r12_work_list_j7;all_goals rfl
    all_goals exact hj7 _ _
   refine Q.condP ?_ ?_
   ·all_goals exact hj3 _
   all_goals exact hj3 _
  ·funext a0 a1 a2 a3
   refine Qs ?_;rw [r12_work_object_n,r12_work_object_qn];try rw [ih.1]
   try rw [ih.2.1]
   try rw [ih.2.2.1]
   try rw [ih.2.2.2]
   refine Q.condO ?_ ?_
   ·refine Q.bindPO (Z108_eq _ _) fun x6 hx_x6=>?_;all_goals rfl
   refine Q.wrapPO fun Kb58 hKb58=>?_;refine r12_work_object_l58_qe  Kb58 ?_ _ _ _ ⟨Nat.succ_pos _,by omega⟩;intro n58 s9_59 y60_c0;refine Qe (hKb58 _) ?_;refine Q.wrapPO fun Kj8 hKj8=>?_;have hj8:∀(y9_c0:Z4),r12_work_object_j8 a1 a2 a3 (r12_work_coerce_qn n) (Z111_qn n) y9_c0=Kj8 y9_c0:=by
    intro y9_c0;refine Qe (hKj8 _) ?_;unfold r12_work_object_j8;refine Q.wrapOO fun Kb18 hKb18=>?_;refine r12_work_object_l18_qe  Kb18 ?_ _ _ _ _ ⟨Nat.succ_pos _,by omega⟩;intro n18 s13_19 y20_c0 y21_l1;refine Qe (hKb18 _) ?_;try dsimp only
    refine Q.wrapPO fun Kj13 hKj13=>?_;have hj13:∀(y14_c0:Z4) (y15_l1:Z12),r12_work_object_j13  y14_c0 y15_l1=Kj13 (y14_c0,y15_l1):=by
     intro y14_c0 y15_l1;refine Qe (hKj13 _) ?_;try dsimp only
     unfold r12_work_object_j13;all_goals rfl
    all_goals exact hj13 _ _
   all_goals exact hj8 _
  funext a0 a1 a2 a3
  refine Qs ?_;rw [Z111_n,Z111_qn];try rw [ih.1]
  try rw [ih.2.1]
  try rw [ih.2.2.1]
  try rw [ih.2.2.2]
  refine Q.bindO rfl fun x5=>?_;all_goals rfl
def r12_work_coerce_q (a0:Z4) (a1:TRef) (a2:Z12) (a3:Int):Option (Z12×Z4):=r12_work_coerce_qn F0 a0 a1 a2 a3
theorem r12_work_coerce_eq (a0:Z4) (a1:TRef) (a2:Z12) (a3:Int):r12_work_coerce a0 a1 a2 a3=r12_work_coerce_q a0 a1 a2 a3:=by
 unfold r12_work_coerce r12_work_coerce_q; rw [(r12_work_coerce_qall F0).1]
def Z112_q (a0:Z4) (a1:TRef) (a2:Z12):Option (Z12×Int×Z4):=(r12_work_coerce_q a0 a1 a2 (1:Int)).bind fun x3=>bif (!decide (x3.2.Ferr=(0:Int))) then(some ((Z12.mk (0:Int) (0:Int) ([]:Bs) true ([]) (Sl.nil:Sl Bs)),x3.2.Ferr,x3.2)) else(some (x3.1,(0:Int),x3.2))
theorem Z112_eq (a0:Z4) (a1:TRef) (a2:Z12):Z112 a0 a1 a2=Z112_q a0 a1 a2:=by
 unfold Z112 Z112_q;refine Qs ?_;refine Q.bindO (r12_work_coerce_eq _ _ _ _) fun x3=>?_;refine Q.condO ?_ ?_
 ·all_goals rfl
 all_goals rfl
def Z104_q (a0:TDoc) (a1:TRef) (a2:Z12) (a3:Z12):Option (Z12×Int):=on (Z77_q a0 a1.FName) fun x6=>guardO (x6) (Z109_q (Z4.mk a0 a3 true (0:Int) (0:Int)) a2) false fun x7=>bif (x6&&x7) then(some ((Z12.mk (0:Int) (0:Int) ([]:Bs) true ([]) (Sl.nil:Sl Bs)),(8:Int))) else((Z112_q (Z4.mk a0 a3 true (0:Int) (0:Int)) a1 a2).bind fun x11=>some (x11.1,x11.2.1))
theorem Z104_eq (a0:TDoc) (a1:TRef) (a2:Z12) (a3:Z12):Z104 a0 a1 a2 a3=Z104_q a0 a1 a2 a3:=by
 unfold Z104 Z104_q;refine Qs ?_;refine Q.bindPO (Z77_eq _ _) fun x6 hx_x6=>?_;refine Q.guardOO (Z109_eq _ _) fun x7=>?_;refine Q.condO ?_ ?_
 ·all_goals rfl
 refine Q.bindO (Z112_eq _ _ _) fun x11=>?_;all_goals rfl
def Z105_q7 (a0:TDoc) (a2:Bs) (a3:Bs) (a4:Bs):List Z9->(Sl Z6)->Option ((Sl Z6))
 | [],s11_8=>some s11_8
 | h7::r7,s11_8=>on (h7) fun x18=>Option.bind (bif (!x18.FHas) then(some s11_8) else(on (h7) fun x21=>on (h7) fun x22=>(Z104_q a0 x21.FType x22.FDefault (Z12.mk (0:Int) (0:Int) ([]:Bs) true ([]) (Sl.nil:Sl Bs))).bind fun x23=>bif (!decide (x23.2=(0:Int))) then((catC a2 a3).bind fun x26=>on (h7) fun x27=>(catC x26 x27.FName).bind fun x28=>(catC x28 a4).bind fun x29=>(appC 24 s11_8 (⟨false,[(Z6.mk (23:Int) x29)]⟩:Sl Z6)).bind fun x30=>some x30) else(some s11_8))) fun s11_15=>Z105_q7 a0 a2 a3 a4 (r7) s11_15
theorem Z105_l7_qe {a0:TDoc}{a1:(Sl Z9)}{a2:Bs}{a3:Bs}{a4:Bs}  (Kb7:((Sl Z6))->Option (Sl Z6)) (hend:∀(n7:Nat) (s11_8:(Sl Z6)) (s12_9:Nat),Z105_j3   s11_8=Kb7 s11_8):∀(n7:Nat) (s11_8:(Sl Z6)) (s12_9:Nat),(0<n7/\a1.l.length<s12_9+n7)->Z105_l7 a0 a1 a2 a3 a4 n7 s11_8 s12_9=Option.bind (Z105_q7 a0 a2 a3 a4 (a1.l.drop s12_9) s11_8) Kb7:=by
 intro n7;induction n7 with
 | zero=>intro s11_8 s12_9 hn; exact absurd hn.1 (by omega)
 | succ n7 ih7 =>
  intro s11_8 s12_9 hn;rw [Z105_l7];by_cases hlt:s12_9<a1.l.length
  ·obtain⟨h7,hh7⟩:=Qa hlt;rw [Q.drop_of hh7,Z105_q7];refine QT hlt ?_;refine Q.bindPO hh7 fun x18 hx_x18=>?_;refine Q.wrapOO fun Kj14 hKj14=>?_;have hj14:∀(s11_15:(Sl Z6)),Z105_j14 s12_9 (Z105_l7 a0 a1 a2 a3 a4 n7) s11_15=Kj14 s11_15:=by
    intro s11_15;refine Qe (hKj14 _) ?_;unfold Z105_j14;all_goals exact ih7 _ _ ⟨by omega,by omega⟩
   refine Q.condO ?_ ?_
   ·all_goals exact hj14 _
   refine Q.bindPO hh7 fun x21 hx_x21=>?_;refine Q.bindPO hh7 fun x22 hx_x22=>?_;refine Q.bindO (Z104_eq _ _ _ _) fun x23=>?_;refine Q.condO ?_ ?_
   ·refine Q.bindO rfl fun x26=>?_;refine Q.bindPO hh7 fun x27 hx_x27=>?_;refine Q.bindO rfl fun x28=>?_;refine Q.bindO rfl fun x29=>?_;refine Q.bindO rfl fun x30=>?_;all_goals exact hj14 _
   all_goals exact hj14 _
  rw [dL (by omega),Z105_q7];refine QF hlt ?_;exact hend n7 s11_8 s12_9
def Z105_q (a0:TDoc) (a1:(Sl Z9)) (a2:Bs) (a3:Bs) (a4:Bs):Option (Sl Z6):=Option.bind (Z105_q7 a0 a2 a3 a4 a1.l (Sl.nil:Sl Z6)) fun s11_8=>on (s11_8) fun s11_4=>some s11_4
theorem Z105_eq (a0:TDoc) (a1:(Sl Z9)) (a2:Bs) (a3:Bs) (a4:Bs):Z105 a0 a1 a2 a3 a4=Z105_q a0 a1 a2 a3 a4:=by
 unfold Z105 Z105_q;refine Qs ?_;refine Q.wrapOO fun Kb7 hKb7=>?_;refine Z105_l7_qe  Kb7 ?_ _ _ _ ⟨Nat.succ_pos _,by omega⟩;intro n7 s11_8 s12_9;refine Qe (hKb7 _) ?_;refine Q.wrapPO fun Kj3 hKj3=>?_;have hj3:∀(s11_4:(Sl Z6)),Z105_j3  s11_4=Kj3 s11_4:=by
  intro s11_4;refine Qe (hKj3 _) ?_;unfold Z105_j3;all_goals rfl
 all_goals exact hj3 _
def Z103_q23 (a0:TDoc) (x17:TDef):List Z7->(Sl Z6)->Option ((Sl Z6))
 | [],s3_24=>some s3_24
 | h23::r23,s3_24=>on (h23) fun x31=>(catC x17.FName ([46]:Bs)).bind fun x32=>on (h23) fun x33=>(catC x32 x33.FName).bind fun x34=>(Z105_q a0 x31.FArgs x34 ([40]:Bs) ([41]:Bs)).bind fun x35=>(appC 24 s3_24 x35).bind fun x36=>Z103_q23 a0 x17 (r23) x36
theorem Z103_l23_qe {a0:TDoc}{s4_9:Nat}{x17:TDef}{k_next_7:(Sl Z6)->Nat->Option (Sl Z6)}  (Kb23:((Sl Z6))->Option (Sl Z6)) (hend:∀(n23:Nat) (s3_24:(Sl Z6)) (s6_25:Nat),Z103_j18 a0 s4_9 x17 k_next_7 s3_24=Kb23 s3_24):∀(n23:Nat) (s3_24:(Sl Z6)) (s6_25:Nat),(0<n23/\x17.FFields.l.length<s6_25+n23)->Z103_l23 a0 s4_9 x17 k_next_7 n23 s3_24 s6_25=Option.bind (Z103_q23 a0 x17 (x17.FFields.l.drop s6_25) s3_24) Kb23:=by
 intro n23;induction n23 with
 | zero=>intro s3_24 s6_25 hn; exact absurd hn.1 (by omega)
 | succ n23 ih23 =>
  intro s3_24 s6_25 hn;rw [Z103_l23];by_cases hlt:s6_25<x17.FFields.l.length
  ·obtain⟨h23,hh23⟩:=Qa hlt;rw [Q.drop_of hh23,Z103_q23];refine QT hlt ?_;refine Q.bindPO hh23 fun x31 hx_x31=>?_;refine Q.bindO rfl fun x32=>?_;refine Q.bindPO hh23 fun x33 hx_x33=>?_;refine Q.bindO rfl fun x34=>?_;refine Q.bindO (Z105_eq _ _ _ _ _) fun x35=>?_;refine Q.bindO rfl fun x36=>?_;all_goals exact ih23 _ _ ⟨by omega,by omega⟩
  rw [dL (by omega),Z103_q23];refine QF hlt ?_;exact hend n23 s3_24 s6_25
def Z103_q7 (a0:TDoc):List TDef->(Sl Z6)->Option ((Sl Z6))
 | [],s3_8=>some s3_8
 | h7::r7,s3_8=>on (h7) fun x17=>Option.bind (Z103_q23 a0 x17 x17.FFields.l s3_8) fun s3_24=>on (s3_24) fun s3_19=>(Z105_q a0 x17.FInputs x17.FName ([46]:Bs) ([]:Bs)).bind fun x20=>(appC 24 s3_19 x20).bind fun x21=>on (x21) fun s3_15=>Z103_q7 a0 (r7) s3_15
theorem Z103_l7_qe {a0:TDoc}  (Kb7:((Sl Z6))->Option (Sl Z6)) (hend:∀(n7:Nat) (s3_8:(Sl Z6)) (s4_9:Nat),Z103_j3   s3_8=Kb7 s3_8):∀(n7:Nat) (s3_8:(Sl Z6)) (s4_9:Nat),(0<n7/\a0.FDefs.l.length<s4_9+n7)->Z103_l7 a0 n7 s3_8 s4_9=Option.bind (Z103_q7 a0 (a0.FDefs.l.drop s4_9) s3_8) Kb7:=by
 intro n7;induction n7 with
 | zero=>intro s3_8 s4_9 hn; exact absurd hn.1 (by omega)
 | succ n7 ih7 =>
  intro s3_8 s4_9 hn;rw [Z103_l7];by_cases hlt:s4_9<a0.FDefs.l.length
  ·obtain⟨h7,hh7⟩:=Qa hlt;rw [Q.drop_of hh7,Z103_q7];refine QT hlt ?_;refine Q.bindPO hh7 fun x17 hx_x17=>?_;refine Q.wrapOO fun Kb23 hKb23=>?_;refine Z103_l23_qe  Kb23 ?_ _ _ _ ⟨Nat.succ_pos _,by omega⟩;intro n23 s3_24 s6_25;refine Qe (hKb23 _) ?_;refine Q.wrapPO fun Kj18 hKj18=>?_;have hj18:∀(s3_19:(Sl Z6)),Z103_j18 a0 s4_9 x17 (Z103_l7 a0 n7) s3_19=Kj18 s3_19:=by
    intro s3_19;refine Qe (hKj18 _) ?_;unfold Z103_j18;refine Q.bindO (Z105_eq _ _ _ _ _) fun x20=>?_;refine Q.bindO rfl fun x21=>?_;refine Q.wrapPO fun Kj14 hKj14=>?_;have hj14:∀(s3_15:(Sl Z6)),Z103_j14 s4_9 (Z103_l7 a0 n7) s3_15=Kj14 s3_15:=by
     intro s3_15;refine Qe (hKj14 _) ?_;unfold Z103_j14;all_goals exact ih7 _ _ ⟨by omega,by omega⟩
    all_goals exact hj14 _
   all_goals exact hj18 _
  rw [dL (by omega),Z103_q7];refine QF hlt ?_;exact hend n7 s3_8 s4_9
def Z103_q (a0:TDoc):Option (Sl Z6):=Option.bind (Z103_q7 a0 a0.FDefs.l (Sl.nil:Sl Z6)) fun s3_8=>on (s3_8) fun s3_4=>some s3_4
theorem Z103_eq (a0:TDoc):Z103 a0=Z103_q a0:=by
 unfold Z103 Z103_q;refine Qs ?_;refine Q.wrapOO fun Kb7 hKb7=>?_;refine Z103_l7_qe  Kb7 ?_ _ _ _ ⟨Nat.succ_pos _,by omega⟩;intro n7 s3_8 s4_9;refine Qe (hKb7 _) ?_;refine Q.wrapPO fun Kj3 hKj3=>?_;have hj3:∀(s3_4:(Sl Z6)),Z103_j3  s3_4=Kj3 s3_4:=by
  intro s3_4;refine Qe (hKj3 _) ?_;unfold Z103_j3;all_goals rfl
 all_goals exact hj3 _
def Z116_q (a0:TDoc):Option (Sl Z6):=(Z73_q a0 true).bind fun x3=>bif (decide ((0:Int)<((x3.l.length:Nat):Int))) then(some x3) else((Z92_q a0).bind fun x10=>(appC 24 x3 x10).bind fun x11=>(Z103_q a0).bind fun x13=>(appC 24 x11 x13).bind fun x14=>some x14)
theorem Z116_eq (a0:TDoc):Z116 a0=Z116_q a0:=by
 unfold Z116 Z116_q;refine Qs ?_;refine Q.bindO (Z73_eq _ _) fun x3=>?_;refine Q.condO ?_ ?_
 ·all_goals rfl
 refine Q.bindO (Z92_eq _) fun x10=>?_;refine Q.bindO rfl fun x11=>?_;refine Q.bindO (Z103_eq _) fun x13=>?_;refine Q.bindO rfl fun x14=>?_;all_goals rfl
def Z68_q5 (k_rec_91:Z12->Option Bool):List Z12->Option (Unit ⊕ Bool)
 | []=>some (Sum.inl ())
 | h5::r5=>on (h5) fun x13=>(k_rec_91 x13).bind fun x14=>bif (!x14) then(some (Sum.inr false)) else(Z68_q5 k_rec_91 (r5) )
theorem Z68_l5_qe {a0:Z12}{k_rec_91:Z12->Option Bool}  (Kb5:(Unit ⊕ Bool)->Option Bool) (hend:∀(n5:Nat) (s3_6:Nat),Z68_j2 a0  =Kb5 (Sum.inl ())) (hret:∀e:Bool,some e=Kb5 (Sum.inr e)):∀(n5:Nat) (s3_6:Nat),(0<n5/\a0.FItems.l.length<s3_6+n5)->Z68_l5 a0 k_rec_91 n5 s3_6=Option.bind (Z68_q5 k_rec_91 (a0.FItems.l.drop s3_6) ) Kb5:=by
 intro n5;induction n5 with
 | zero=>intro s3_6 hn; exact absurd hn.1 (by omega)
 | succ n5 ih5 =>
  intro s3_6 hn;rw [Z68_l5];by_cases hlt:s3_6<a0.FItems.l.length
  ·obtain⟨h5,hh5⟩:=Qa hlt;rw [Q.drop_of hh5,Z68_q5];refine QT hlt ?_;refine Q.bindPO hh5 fun x13 hx_x13=>?_;refine Q.bindO rfl fun x14=>?_;refine Q.condO ?_ ?_
   ·all_goals exact hret _
   all_goals exact ih5 _ ⟨by omega,by omega⟩
  rw [dL (by omega),Z68_q5];refine QF hlt ?_;exact hend n5 s3_6
def Z68_qn:Nat->Z12->Option Bool
 | 0,_=>none
 | n+1,a0=>Option.bind (Z68_q5 (Z68_qn n) a0.FItems.l ) fun o5=>match o5 with|Sum.inl _=>(on (()) fun _=>some (!decide (a0.FKind=(7:Int))))|Sum.inr e5=>(some e5)
theorem Z68_qall:∀n:Nat,Z68_n n=Z68_qn n:=by
 intro n;induction n with
 | zero=>exact(by funext a0; first|rfl|(rw [Z68_n,Z68_qn]))
 | succ n ih =>
  funext a0
  refine Qs ?_;rw [Z68_n,Z68_qn];try rw [ih]
  refine Q.wrapOO fun Kb5 hKb5=>?_;refine Z68_l5_qe  Kb5 ?_ ?_ _ _ ⟨Nat.succ_pos _,by omega⟩
  ·intro n5 s3_6;refine Qe (hKb5 _) ?_;try dsimp only
   refine Q.wrapPO fun Kj2 hKj2=>?_;have hj2:Z68_j2 a0 =Kj2 ():=by
    refine Qe (hKj2 _) ?_;unfold Z68_j2;all_goals rfl
   all_goals exact hj2
  intro e5;refine Qe (hKb5 _) ?_;try dsimp only
  all_goals rfl
def Z68_q (a0:Z12):Option Bool:=Z68_qn F0 a0
theorem Z68_eq (a0:Z12):Z68 a0=Z68_q a0:=by
 unfold Z68 Z68_q; rw [(Z68_qall F0)]
def Z72_q6 :List TVar->Option (Unit ⊕ Bool)
 | []=>some (Sum.inl ())
 | h6::r6=>on (h6) fun x14=>on (Z37_q x14.FName) fun x17=>guardO (!(!x17)) (Z54_q x14.FType) false fun x18=>guardO (!((!x17)||(!x18))) (Z44_q x14.FDefault) false fun x19=>guardO (!(((!x17)||(!x18))||(!x19))) (Z68_q x14.FDefault) false fun x20=>bif ((((!x17)||(!x18))||(!x19))||(!x20)) then(some (Sum.inr false)) else(bif ((!x14.FHas)&&(!decide (x14.FDefault.FKind=(0:Int)))) then(some (Sum.inr false)) else(Z72_q6  (r6) ))
theorem Z72_l6_qe {a0:(Sl TVar)}  (Kb6:(Unit ⊕ Bool)->Option Bool) (hend:∀(n6:Nat) (s3_7:Nat),Z72_j2 a0  =Kb6 (Sum.inl ())) (hret:∀e:Bool,some e=Kb6 (Sum.inr e)):∀(n6:Nat) (s3_7:Nat),(0<n6/\a0.l.length<s3_7+n6)->Z72_l6 a0 n6 s3_7=Option.bind (Z72_q6  (a0.l.drop s3_7) ) Kb6:=by
 intro n6;induction n6 with
 | zero=>intro s3_7 hn; exact absurd hn.1 (by omega)
 | succ n6 ih6 =>
  intro s3_7 hn;rw [Z72_l6];by_cases hlt:s3_7<a0.l.length
  ·obtain⟨h6,hh6⟩:=Qa hlt;rw [Q.drop_of hh6,Z72_q6];refine QT hlt ?_;refine Q.bindPO hh6 fun x14 hx_x14=>?_;refine Q.bindPO (Z37_eq _) fun x17 hx_x17=>?_;refine Q.guardOO (Z54_eq _) fun x18=>?_;refine Q.guardOO (Z44_eq _) fun x19=>?_;refine Q.guardOO (Z68_eq _) fun x20=>?_;refine Q.condO ?_ ?_
   ·all_goals exact hret _
   refine Q.condO ?_ ?_
   ·all_goals exact hret _
   all_goals exact ih6 _ ⟨by omega,by omega⟩
  rw [dL (by omega),Z72_q6];refine QF hlt ?_;exact hend n6 s3_7
def Z72_q (a0:(Sl TVar)):Option Bool:=Option.bind (Z72_q6  a0.l ) fun o6=>match o6 with|Sum.inl _=>(on (()) fun _=>some (decide (((a0.l.length:Nat):Int)<=(16:Int))))|Sum.inr e6=>(some e6)
theorem Z72_eq (a0:(Sl TVar)):Z72 a0=Z72_q a0:=by
 unfold Z72 Z72_q;refine Qs ?_;refine Q.wrapOO fun Kb6 hKb6=>?_;refine Z72_l6_qe  Kb6 ?_ ?_ _ _ ⟨Nat.succ_pos _,by omega⟩
 ·intro n6 s3_7;refine Qe (hKb6 _) ?_;try dsimp only
  refine Q.wrapPO fun Kj2 hKj2=>?_;have hj2:Z72_j2 a0 =Kj2 ():=by
   refine Qe (hKj2 _) ?_;unfold Z72_j2;all_goals rfl
  all_goals exact hj2
 intro e6;refine Qe (hKb6 _) ?_;try dsimp only
 all_goals rfl
def Z71_q (a0:Bs):Bool:=on (Z37_q a0) fun x3=>(x3&&(!(a0==([111,110]:Bs))))
theorem Z71_eq (a0:Bs):Z71 a0=some (Z71_q a0):=by
 unfold Z71 Z71_q;refine Q.bindP (Z37_eq _) fun x3 hx_x3=>?_;all_goals rfl
end Go.Proofs

namespace Go.Proofs
open Go Go.Ab
def Z67_q6 :List TArg->Option (Unit ⊕ Bool)
 | []=>some (Sum.inl ())
 | h6::r6=>on (h6) fun x14=>on (Z37_q x14.FName) fun x15=>on (bif !(!x15) then h6 else TArg.zero) fun x16=>guardO (!(!x15)) (Z44_q x16.FValue) false fun x17=>bif ((!x15)||(!x17)) then(some (Sum.inr false)) else(Z67_q6  (r6) )
theorem Z67_l6_qe {a0:(Sl TArg)}  (Kb6:(Unit ⊕ Bool)->Option Bool) (hend:∀(n6:Nat) (s3_7:Nat),Z67_j2 a0  =Kb6 (Sum.inl ())) (hret:∀e:Bool,some e=Kb6 (Sum.inr e)):∀(n6:Nat) (s3_7:Nat),(0<n6/\a0.l.length<s3_7+n6)->Z67_l6 a0 n6 s3_7=Option.bind (Z67_q6  (a0.l.drop s3_7) ) Kb6:=by
 intro n6;induction n6 with
 | zero=>intro s3_7 hn; exact absurd hn.1 (by omega)
 | succ n6 ih6 =>
  intro s3_7 hn;rw [Z67_l6];by_cases hlt:s3_7<a0.l.length
  ·obtain⟨h6,hh6⟩:=Qa hlt;rw [Q.drop_of hh6,Z67_q6];refine QT hlt ?_;refine Q.bindPO hh6 fun x14 hx_x14=>?_;refine Q.bindPO (Z37_eq _) fun x15 hx_x15=>?_;refine Q.guardPO hh6 fun x16 hx_x16=>?_;refine Q.guardOO (Z44_eq _) fun x17=>?_;refine Q.condO ?_ ?_
   ·all_goals exact hret _
   all_goals exact ih6 _ ⟨by omega,by omega⟩
  rw [dL (by omega),Z67_q6];refine QF hlt ?_;exact hend n6 s3_7
def Z67_q (a0:(Sl TArg)):Option Bool:=Option.bind (Z67_q6  a0.l ) fun o6=>match o6 with|Sum.inl _=>(on (()) fun _=>some (decide (((a0.l.length:Nat):Int)<=(16:Int))))|Sum.inr e6=>(some e6)
theorem Z67_eq (a0:(Sl TArg)):Z67 a0=Z67_q a0:=by
 unfold Z67 Z67_q;refine Qs ?_;refine Q.wrapOO fun Kb6 hKb6=>?_;refine Z67_l6_qe  Kb6 ?_ ?_ _ _ ⟨Nat.succ_pos _,by omega⟩
 ·intro n6 s3_7;refine Qe (hKb6 _) ?_;try dsimp only
  refine Q.wrapPO fun Kj2 hKj2=>?_;have hj2:Z67_j2 a0 =Kj2 ():=by
   refine Qe (hKj2 _) ?_;unfold Z67_j2;all_goals rfl
  all_goals exact hj2
 intro e6;refine Qe (hKb6 _) ?_;try dsimp only
 all_goals rfl
def Z69_q6 :List TDir->Option (Unit ⊕ Bool)
 | []=>some (Sum.inl ())
 | h6::r6=>on (h6) fun x14=>on (Z37_q x14.FName) fun x15=>on (bif !(!x15) then h6 else TDir.zero) fun x16=>guardO (!(!x15)) (Z67_q x16.FArgs) false fun x17=>bif ((!x15)||(!x17)) then(some (Sum.inr false)) else(Z69_q6  (r6) )
theorem Z69_l6_qe {a0:(Sl TDir)}  (Kb6:(Unit ⊕ Bool)->Option Bool) (hend:∀(n6:Nat) (s3_7:Nat),Z69_j2 a0  =Kb6 (Sum.inl ())) (hret:∀e:Bool,some e=Kb6 (Sum.inr e)):∀(n6:Nat) (s3_7:Nat),(0<n6/\a0.l.length<s3_7+n6)->Z69_l6 a0 n6 s3_7=Option.bind (Z69_q6  (a0.l.drop s3_7) ) Kb6:=by
 intro n6;induction n6 with
 | zero=>intro s3_7 hn; exact absurd hn.1 (by omega)
 | succ n6 ih6 =>
  intro s3_7 hn;rw [Z69_l6];by_cases hlt:s3_7<a0.l.length
  ·obtain⟨h6,hh6⟩:=Qa hlt;rw [Q.drop_of hh6,Z69_q6];refine QT hlt ?_;refine Q.bindPO hh6 fun x14 hx_x14=>?_;refine Q.bindPO (Z37_eq _) fun x15 hx_x15=>?_;refine Q.guardPO hh6 fun x16 hx_x16=>?_;refine Q.guardOO (Z67_eq _) fun x17=>?_;refine Q.condO ?_ ?_
   ·all_goals exact hret _
   all_goals exact ih6 _ ⟨by omega,by omega⟩
  rw [dL (by omega),Z69_q6];refine QF hlt ?_;exact hend n6 s3_7
def Z69_q (a0:(Sl TDir)):Option Bool:=Option.bind (Z69_q6  a0.l ) fun o6=>match o6 with|Sum.inl _=>(on (()) fun _=>some (decide (((a0.l.length:Nat):Int)<=(16:Int))))|Sum.inr e6=>(some e6)
theorem Z69_eq (a0:(Sl TDir)):Z69 a0=Z69_q a0:=by
 unfold Z69 Z69_q;refine Qs ?_;refine Q.wrapOO fun Kb6 hKb6=>?_;refine Z69_l6_qe  Kb6 ?_ ?_ _ _ ⟨Nat.succ_pos _,by omega⟩
 ·intro n6 s3_7;refine Qe (hKb6 _) ?_;try dsimp only
  refine Q.wrapPO fun Kj2 hKj2=>?_;have hj2:Z69_j2 a0 =Kj2 ():=by
   refine Qe (hKj2 _) ?_;unfold Z69_j2;all_goals rfl
  all_goals exact hj2
 intro e6;refine Qe (hKb6 _) ?_;try dsimp only
 all_goals rfl
def r08_selsRight_q10 (a1:Int) (k_rec_92:TSel->Int->Option Bool):List TSel->Option (Unit ⊕ Bool)
 | []=>some (Sum.inl ())
 | h10::r10=>on (h10) fun x18=>(k_rec_92 x18 a1).bind fun x19=>bif (!x19) then(some (Sum.inr false)) else(r08_selsRight_q10 a1 k_rec_92 (r10) )
theorem r08_selsRight_l10_qe {a0:(Sl TSel)}{a1:Int}{k_rec_92:TSel->Int->Option Bool}  (Kb10:(Unit ⊕ Bool)->Option Bool) (hend:∀(n10:Nat) (s5_11:Nat),r08_selsRight_j7   =Kb10 (Sum.inl ())) (hret:∀e:Bool,some e=Kb10 (Sum.inr e)):∀(n10:Nat) (s5_11:Nat),(0<n10/\a0.l.length<s5_11+n10)->r08_selsRight_l10 a0 a1 k_rec_92 n10 s5_11=Option.bind (r08_selsRight_q10 a1 k_rec_92 (a0.l.drop s5_11) ) Kb10:=by
 intro n10;induction n10 with
 | zero=>intro s5_11 hn; exact absurd hn.1 (by omega)
 | succ n10 ih10 =>
  intro s5_11 hn;rw [r08_selsRight_l10];by_cases hlt:s5_11<a0.l.length
  ·obtain⟨h10,hh10⟩:=Qa hlt;rw [Q.drop_of hh10,r08_selsRight_q10];refine QT hlt ?_;refine Q.bindPO hh10 fun x18 hx_x18=>?_;refine Q.bindO rfl fun x19=>?_;refine Q.condO ?_ ?_
   ·all_goals exact hret _
   all_goals exact ih10 _ ⟨by omega,by omega⟩
  rw [dL (by omega),r08_selsRight_q10];refine QF hlt ?_;exact hend n10 s5_11
mutual
def r08_selsRight_qn:Nat->(Sl TSel)->Int->Option Bool
 | 0,_,_=>none
 | n+1,a0,a1=>bif (((decide (((a0.l.length:Nat):Int)=(0:Int)))||(decide ((64:Int)<((a0.l.length:Nat):Int))))||(decide ((24:Int)<a1))) then(some false) else(Option.bind (r08_selsRight_q10 a1 (Z70_qn n) a0.l ) fun o10=>match o10 with|Sum.inl _=>(on (()) fun _=>some true)|Sum.inr e10=>(some e10))
def Z70_qn:Nat->TSel->Int->Option Bool
 | 0,_,_=>none
 | n+1,a0,a1=>(Z69_q a0.FDirs).bind fun x4=>guardO (!(!x4)) (Z67_q a0.FArgs) false fun x5=>bif ((!x4)||(!x5)) then(some false) else(bif (decide (a0.FKind=(1:Int))) then(on (Z37_q a0.FName) fun x13=>on (bif (x13&&!((a0.FAlias==([]:Bs)))) then Z37_q a0.FAlias else false) fun x14=>guardO ((((x13&&(((a0.FAlias==([]:Bs)))||x14))&&((a0.FOn==([]:Bs))))&&!(decide (((a0.FSels.l.length:Nat):Int)=(0:Int))))) (addC a1 (1:Int)) (0:Int) fun x15=>guardO ((((x13&&(((a0.FAlias==([]:Bs)))||x14))&&((a0.FOn==([]:Bs))))&&!(decide (((a0.FSels.l.length:Nat):Int)=(0:Int))))) ((r08_selsRight_qn n) a0.FSels x15) false fun x16=>some (((x13&&(((a0.FAlias==([]:Bs)))||x14))&&((a0.FOn==([]:Bs))))&&((decide (((a0.FSels.l.length:Nat):Int)=(0:Int)))||x16))) else(bif (decide (a0.FKind=(2:Int))) then(on (Z71_q a0.FName) fun x20=>some ((((x20&&((a0.FAlias==([]:Bs))))&&((a0.FOn==([]:Bs))))&&(decide (((a0.FArgs.l.length:Nat):Int)=(0:Int))))&&(decide (((a0.FSels.l.length:Nat):Int)=(0:Int))))) else(bif (decide (a0.FKind=(3:Int))) then(on (bif ((((a0.FName==([]:Bs)))&&((a0.FAlias==([]:Bs))))&&!((a0.FOn==([]:Bs)))) then Z37_q a0.FOn else false) fun x24=>guardO ((((((a0.FName==([]:Bs)))&&((a0.FAlias==([]:Bs))))&&(((a0.FOn==([]:Bs)))||x24))&&(decide (((a0.FArgs.l.length:Nat):Int)=(0:Int))))) (addC a1 (1:Int)) (0:Int) fun x25=>guardO ((((((a0.FName==([]:Bs)))&&((a0.FAlias==([]:Bs))))&&(((a0.FOn==([]:Bs)))||x24))&&(decide (((a0.FArgs.l.length:Nat):Int)=(0:Int))))) ((r08_selsRight_qn n) a0.FSels x25) false fun x26=>some ((((((a0.FName==([]:Bs)))&&((a0.FAlias==([]:Bs))))&&(((a0.FOn==([]:Bs)))||x24))&&(decide (((a0.FArgs.l.length:Nat):Int)=(0:Int))))&&x26)) else(some false))))
end
theorem r08_selsRight_qall:∀n:Nat,r08_selsRight_n n=r08_selsRight_qn n/\Z70_n n=Z70_qn n:=by
 intro n;induction n with
 | zero=>exact⟨(by funext a0 a1; first|rfl|(rw [r08_selsRight_n,r08_selsRight_qn])),(by funext a0 a1; first|rfl|(rw [Z70_n,Z70_qn]))⟩
 | succ n ih =>
  refine⟨?_, ?_⟩
  ·funext a0 a1
   refine Qs ?_;rw [r08_selsRight_n,r08_selsRight_qn];try rw [ih.1]
   try rw [ih.2]
   refine Q.condO ?_ ?_
   ·all_goals rfl
   refine Q.wrapOO fun Kb10 hKb10=>?_;refine r08_selsRight_l10_qe  Kb10 ?_ ?_ _ _ ⟨Nat.succ_pos _,by omega⟩
   ·intro n10 s5_11;refine Qe (hKb10 _) ?_;try dsimp only
    refine Q.wrapPO fun Kj7 hKj7=>?_;have hj7:r08_selsRight_j7  =Kj7 ():=by
     refine Qe (hKj7 _) ?_;unfold r08_selsRight_j7;all_goals rfl
    all_goals exact hj7
   intro e10;refine Qe (hKb10 _) ?_;try dsimp only
   all_goals rfl
  funext a0 a1
  refine Qs ?_;rw [Z70_n,Z70_qn];try rw [ih.1]
  try rw [ih.2]
  refine Q.bindO (Z69_eq _) fun x4=>?_;refine Q.guardOO (Z67_eq _) fun x5=>?_;refine Q.condO ?_ ?_
  ·all_goals rfl
  refine Q.condO ?_ ?_
  ·refine Q.bindPO (Z37_eq _) fun x13 hx_x13=>?_;refine Q.guardPO (Z37_eq _) fun x14 hx_x14=>?_;refine Q.guardOO rfl fun x15=>?_;refine Q.guardOO rfl fun x16=>?_;all_goals rfl
  refine Q.condO ?_ ?_
  ·refine Q.bindPO (Z71_eq _) fun x20 hx_x20=>?_;all_goals rfl
  refine Q.condO ?_ ?_
  ·refine Q.guardPO (Z37_eq _) fun x24 hx_x24=>?_;refine Q.guardOO rfl fun x25=>?_;refine Q.guardOO rfl fun x26=>?_;all_goals rfl
  all_goals rfl
def r08_selsRight_q (a0:(Sl TSel)) (a1:Int):Option Bool:=r08_selsRight_qn F0 a0 a1
theorem r08_selsRight_eq (a0:(Sl TSel)) (a1:Int):r08_selsRight a0 a1=r08_selsRight_q a0 a1:=by
 unfold r08_selsRight r08_selsRight_q; rw [(r08_selsRight_qall F0).1]
def Z66_q30 :List TOp->Option (Unit ⊕ Bool)
 | []=>some (Sum.inl ())
 | h30::r30=>on (h30) fun x38=>on (bif (!((decide (x38.FKind<(1:Int)))||(decide ((3:Int)<x38.FKind)))&&(!(x38.FName==([]:Bs)))) then Z37_q x38.FName else false) fun x40=>guardO (!(((decide (x38.FKind<(1:Int)))||(decide ((3:Int)<x38.FKind)))||((!(x38.FName==([]:Bs)))&&(!x40)))) (Z72_q x38.FVars) false fun x41=>guardO (!((((decide (x38.FKind<(1:Int)))||(decide ((3:Int)<x38.FKind)))||((!(x38.FName==([]:Bs)))&&(!x40)))||(!x41))) (r08_selsRight_q x38.FSels (1:Int)) false fun x42=>bif (((((decide (x38.FKind<(1:Int)))||(decide ((3:Int)<x38.FKind)))||((!(x38.FName==([]:Bs)))&&(!x40)))||(!x41))||(!x42)) then(some (Sum.inr false)) else(Z66_q30  (r30) )
theorem Z66_l30_qe {a0:Z11}  (Kb30:(Unit ⊕ Bool)->Option Bool) (hend:∀(n30:Nat) (s4_31:Nat),Z66_j10 a0  =Kb30 (Sum.inl ())) (hret:∀e:Bool,some e=Kb30 (Sum.inr e)):∀(n30:Nat) (s4_31:Nat),(0<n30/\a0.FOps.l.length<s4_31+n30)->Z66_l30 a0 n30 s4_31=Option.bind (Z66_q30  (a0.FOps.l.drop s4_31) ) Kb30:=by
 intro n30;induction n30 with
 | zero=>intro s4_31 hn; exact absurd hn.1 (by omega)
 | succ n30 ih30 =>
  intro s4_31 hn;rw [Z66_l30];by_cases hlt:s4_31<a0.FOps.l.length
  ·obtain⟨h30,hh30⟩:=Qa hlt;rw [Q.drop_of hh30,Z66_q30];refine QT hlt ?_;refine Q.bindPO hh30 fun x38 hx_x38=>?_;refine Q.guardPO (Z37_eq _) fun x40 hx_x40=>?_;refine Q.guardOO (Z72_eq _) fun x41=>?_;refine Q.guardOO (r08_selsRight_eq _ _) fun x42=>?_;refine Q.condO ?_ ?_
   ·all_goals exact hret _
   all_goals exact ih30 _ ⟨by omega,by omega⟩
  rw [dL (by omega),Z66_q30];refine QF hlt ?_;exact hend n30 s4_31
def Z66_q14 :List Z8->Option (Unit ⊕ Bool)
 | []=>some (Sum.inl ())
 | h14::r14=>on (h14) fun x22=>on (Z71_q x22.FName) fun x24=>on (bif !(!x24) then Z37_q x22.FOn else false) fun x25=>guardO (!((!x24)||(!x25))) (r08_selsRight_q x22.FSels (1:Int)) false fun x26=>bif (((!x24)||(!x25))||(!x26)) then(some (Sum.inr false)) else(Z66_q14  (r14) )
theorem Z66_l14_qe {a0:Z11}  (Kb14:(Unit ⊕ Bool)->Option Bool) (hend:∀(n14:Nat) (s6_15:Nat),Z66_j11   =Kb14 (Sum.inl ())) (hret:∀e:Bool,some e=Kb14 (Sum.inr e)):∀(n14:Nat) (s6_15:Nat),(0<n14/\a0.FFrags.l.length<s6_15+n14)->Z66_l14 a0 n14 s6_15=Option.bind (Z66_q14  (a0.FFrags.l.drop s6_15) ) Kb14:=by
 intro n14;induction n14 with
 | zero=>intro s6_15 hn; exact absurd hn.1 (by omega)
 | succ n14 ih14 =>
  intro s6_15 hn;rw [Z66_l14];by_cases hlt:s6_15<a0.FFrags.l.length
  ·obtain⟨h14,hh14⟩:=Qa hlt;rw [Q.drop_of hh14,Z66_q14];refine QT hlt ?_;refine Q.bindPO hh14 fun x22 hx_x22=>?_;refine Q.bindPO (Z71_eq _) fun x24 hx_x24=>?_;refine Q.guardPO (Z37_eq _) fun x25 hx_x25=>?_;refine Q.guardOO (r08_selsRight_eq _ _) fun x26=>?_;refine Q.condO ?_ ?_
   ·all_goals exact hret _
   all_goals exact ih14 _ ⟨by omega,by omega⟩
  rw [dL (by omega),Z66_q14];refine QF hlt ?_;exact hend n14 s6_15
def Z66_q (a0:Z11):Option Bool:=(addC ((a0.FOps.l.length:Nat):Int) ((a0.FFrags.l.length:Nat):Int)).bind fun x5=>bif ((decide (x5<(1:Int)))||(decide ((64:Int)<x5))) then(some false) else(Option.bind (Z66_q30  a0.FOps.l ) fun o30=>match o30 with|Sum.inl _=>(on (()) fun _=>Option.bind (Z66_q14  a0.FFrags.l ) fun o14=>match o14 with|Sum.inl _=>(on (()) fun _=>some true)|Sum.inr e14=>(some e14))|Sum.inr e30=>(some e30))
theorem Z66_eq (a0:Z11):Z66 a0=Z66_q a0:=by
 unfold Z66 Z66_q;refine Qs ?_;refine Q.bindO rfl fun x5=>?_;refine Q.condO ?_ ?_
 ·all_goals rfl
 refine Q.wrapOO fun Kb30 hKb30=>?_;refine Z66_l30_qe  Kb30 ?_ ?_ _ _ ⟨Nat.succ_pos _,by omega⟩
 ·intro n30 s4_31;refine Qe (hKb30 _) ?_;try dsimp only
  refine Q.wrapPO fun Kj10 hKj10=>?_;have hj10:Z66_j10 a0 =Kj10 ():=by
   refine Qe (hKj10 _) ?_;unfold Z66_j10;refine Q.wrapOO fun Kb14 hKb14=>?_;refine Z66_l14_qe  Kb14 ?_ ?_ _ _ ⟨Nat.succ_pos _,by omega⟩
   ·intro n14 s6_15;refine Qe (hKb14 _) ?_;try dsimp only
    refine Q.wrapPO fun Kj11 hKj11=>?_;have hj11:Z66_j11  =Kj11 ():=by
     refine Qe (hKj11 _) ?_;unfold Z66_j11;all_goals rfl
    all_goals exact hj11
   intro e14;refine Qe (hKb14 _) ?_;try dsimp only
   all_goals rfl
  all_goals exact hj10
 intro e30;refine Qe (hKb30 _) ?_;try dsimp only
 all_goals rfl
def Z115_q (a0:TDoc) (a1:Z11):Option (Sl Z6):=Z115 a0 a1
theorem Z115_eq (a0:TDoc) (a1:Z11):Z115 a0 a1=Z115_q a0 a1:=rfl
def Z35_q13 (a0:TDoc):List Z11->Option (Unit ⊕ Bool)
 | []=>some (Sum.inl ())
 | h13::r13=>on (h13) fun x21=>(Z66_q x21).bind fun x22=>on (bif !(!x22) then h13 else Z11.zero) fun x23=>guardO (!(!x22)) (Z115_q a0 x23) (Sl.nil:Sl Z6) fun x24=>bif ((!x22)||(decide ((0:Int)<((x24.l.length:Nat):Int)))) then(some (Sum.inr false)) else(Z35_q13 a0 (r13) )
theorem Z35_l13_qe {a0:TDoc}{a2:(Sl Z11)}  (Kb13:(Unit ⊕ Bool)->Option Bool) (hend:∀(n13:Nat) (s7_14:Nat),Z35_j10   =Kb13 (Sum.inl ())) (hret:∀e:Bool,some e=Kb13 (Sum.inr e)):∀(n13:Nat) (s7_14:Nat),(0<n13/\a2.l.length<s7_14+n13)->Z35_l13 a0 a2 n13 s7_14=Option.bind (Z35_q13 a0 (a2.l.drop s7_14) ) Kb13:=by
 intro n13;induction n13 with
 | zero=>intro s7_14 hn; exact absurd hn.1 (by omega)
 | succ n13 ih13 =>
  intro s7_14 hn;rw [Z35_l13];by_cases hlt:s7_14<a2.l.length
  ·obtain⟨h13,hh13⟩:=Qa hlt;rw [Q.drop_of hh13,Z35_q13];refine QT hlt ?_;refine Q.bindPO hh13 fun x21 hx_x21=>?_;refine Q.bindO (Z66_eq _) fun x22=>?_;refine Q.guardPO hh13 fun x23 hx_x23=>?_;refine Q.guardOO (Z115_eq _ _) fun x24=>?_;refine Q.condO ?_ ?_
   ·all_goals exact hret _
   all_goals exact ih13 _ ⟨by omega,by omega⟩
  rw [dL (by omega),Z35_q13];refine QF hlt ?_;exact hend n13 s7_14
def Z35_q (a0:TDoc) (a1:TDoc) (a2:(Sl Z11)):Option Bool:=(Z58_q a0).bind fun x4=>guardO (!(!x4)) (Z58_q a1) false fun x5=>guardO (!((!x4)||(!x5))) (Z116_q a0) (Sl.nil:Sl Z6) fun x6=>guardO (!(((!x4)||(!x5))||(decide ((0:Int)<((x6.l.length:Nat):Int))))) (Z116_q a1) (Sl.nil:Sl Z6) fun x7=>bif ((((!x4)||(!x5))||(decide ((0:Int)<((x6.l.length:Nat):Int))))||(decide ((0:Int)<((x7.l.length:Nat):Int)))) then(some false) else(Option.bind (Z35_q13 a0 a2.l ) fun o13=>match o13 with|Sum.inl _=>(on (()) fun _=>some true)|Sum.inr e13=>(some e13))
theorem Z35_eq (a0:TDoc) (a1:TDoc) (a2:(Sl Z11)):Z35 a0 a1 a2=Z35_q a0 a1 a2:=by
 unfold Z35 Z35_q;refine Qs ?_;refine Q.bindO (Z58_eq _) fun x4=>?_;refine Q.guardOO (Z58_eq _) fun x5=>?_;refine Q.guardOO (Z116_eq _) fun x6=>?_;refine Q.guardOO (Z116_eq _) fun x7=>?_;refine Q.condO ?_ ?_
 ·all_goals rfl
 refine Q.wrapOO fun Kb13 hKb13=>?_;refine Z35_l13_qe  Kb13 ?_ ?_ _ _ ⟨Nat.succ_pos _,by omega⟩
 ·intro n13 s7_14;refine Qe (hKb13 _) ?_;try dsimp only
  refine Q.wrapPO fun Kj10 hKj10=>?_;have hj10:Z35_j10  =Kj10 ():=by
   refine Qe (hKj10 _) ?_;unfold Z35_j10;all_goals rfl
  all_goals exact hj10
 intro e13;refine Qe (hKb13 _) ?_;try dsimp only
 all_goals rfl
def Z30_q6 :List Z13->Unit ⊕ Bool
 | []=>Sum.inl ()
 | h6::r6=>on (h6) fun x13=>bif (!x13.FSafe) then(Sum.inr false) else(Z30_q6  (r6) )
theorem Z30_l6_qe {a0:(Sl Z13)}  (Kb6:(Unit ⊕ Bool)->Option Bool) (hend:∀(n6:Nat) (s7_7:Nat),Z30_j2   =Kb6 (Sum.inl ())) (hret:∀e:Bool,some e=Kb6 (Sum.inr e)):∀(n6:Nat) (s7_7:Nat),(0<n6/\a0.l.length<s7_7+n6)->Z30_l6 a0 n6 s7_7=Kb6 (Z30_q6  (a0.l.drop s7_7) ):=by
 intro n6;induction n6 with
 | zero=>intro s7_7 hn; exact absurd hn.1 (by omega)
 | succ n6 ih6 =>
  intro s7_7 hn;rw [Z30_l6];by_cases hlt:s7_7<a0.l.length
  ·obtain⟨h6,hh6⟩:=Qa hlt;rw [Q.drop_of hh6,Z30_q6];refine QT hlt ?_;refine Q.bindP hh6 fun x13 hx_x13=>?_;refine Q.condP ?_ ?_
   ·all_goals exact hret _
   all_goals exact ih6 _ ⟨by omega,by omega⟩
  rw [dL (by omega),Z30_q6];refine QF hlt ?_;exact hend n6 s7_7
def Z30_q (a0:(Sl Z13)):Bool:=on (Z30_q6  a0.l ) fun o6=>match o6 with|Sum.inl _=>(on (()) fun _=>true)|Sum.inr e6=>(e6)
theorem Z30_eq (a0:(Sl Z13)):Z30 a0=some (Z30_q a0):=by
 unfold Z30 Z30_q;refine Q.wrapPP fun Kb6 hKb6=>?_;refine Z30_l6_qe  Kb6 ?_ ?_ _ _ ⟨Nat.succ_pos _,by omega⟩
 ·intro n6 s7_7;refine Qe (hKb6 _) ?_;try dsimp only
  refine Q.wrapPP fun Kj2 hKj2=>?_;have hj2:Z30_j2  =Kj2 ():=by
   refine Qe (hKj2 _) ?_;unfold Z30_j2;all_goals rfl
  all_goals exact hj2
 intro e6;refine Qe (hKb6 _) ?_;try dsimp only
 all_goals rfl
def Z118_q7 (a1:Bs):List TDef->Unit ⊕ ((TDef×Bool))
 | []=>Sum.inl ()
 | h7::r7=>on (h7) fun x15=>bif ((x15.FName==a1)) then(Sum.inr (x15,true)) else(Z118_q7 a1 (r7) )
theorem Z118_l7_qe {a0:TDoc}{a1:Bs}  (Kb7:(Unit ⊕ ((TDef×Bool)))->Option (TDef×Bool)) (hend:∀(n7:Nat) (s11_8:Nat) (y9_l0:TDef),Z118_j2   y9_l0=Kb7 (Sum.inl ())) (hret:∀e:(TDef×Bool),some e=Kb7 (Sum.inr e)):∀(n7:Nat) (s11_8:Nat) (y9_l0:TDef),(0<n7/\a0.FDefs.l.length<s11_8+n7)->Z118_l7 a0 a1 n7 s11_8 y9_l0=Kb7 (Z118_q7 a1 (a0.FDefs.l.drop s11_8) ):=by
 intro n7;induction n7 with
 | zero=>intro s11_8 y9_l0 hn; exact absurd hn.1 (by omega)
 | succ n7 ih7 =>
  intro s11_8 y9_l0 hn;rw [Z118_l7];by_cases hlt:s11_8<a0.FDefs.l.length
  ·obtain⟨h7,hh7⟩:=Qa hlt;rw [Q.drop_of hh7,Z118_q7];refine QT hlt ?_;refine Q.bindP hh7 fun x15 hx_x15=>?_;refine Q.condP ?_ ?_
   ·all_goals exact hret _
   all_goals exact ih7 _ _ ⟨by omega,by omega⟩
  rw [dL (by omega),Z118_q7];refine QF hlt ?_;exact hend n7 s11_8 y9_l0
def Z118_q (a0:TDoc) (a1:Bs):(TDef×Bool):=on (Z118_q7 a1 a0.FDefs.l ) fun o7=>match o7 with|Sum.inl _=>(on (()) fun _=>((TDef.mk (0:Int) ([]:Bs) (Sl.nil:Sl Bs) (Sl.nil:Sl TDir) (Sl.nil:Sl Z7) (Sl.nil:Sl Z10) (Sl.nil:Sl Z9)),false))|Sum.inr e7=>(e7)
theorem Z118_eq (a0:TDoc) (a1:Bs):Z118 a0 a1=some (Z118_q a0 a1):=by
 unfold Z118 Z118_q;refine Q.wrapPP fun Kb7 hKb7=>?_;refine Z118_l7_qe  Kb7 ?_ ?_ _ _ _ ⟨Nat.succ_pos _,by omega⟩
 ·intro n7 s11_8 y9_l0;refine Qe (hKb7 _) ?_;try dsimp only
  refine Q.wrapPP fun Kj2 hKj2=>?_;have hj2:∀(y3_l0:TDef),Z118_j2  y3_l0=Kj2 ():=by
   intro y3_l0;refine Qe (hKj2 _) ?_;unfold Z118_j2;all_goals rfl
  all_goals exact hj2 _
 intro e7;refine Qe (hKb7 _) ?_;try dsimp only
 all_goals rfl
def Z16_q (a0:Z0) (a1:Int) (a2:Bs) (a3:Bs) (a4:Bs) (a5:Bs):Option Z0:=(appC 88 a0.Fout (⟨false,[(Z5.mk a1 a0.Fname a2 a3 a4 a5)]⟩:Sl Z5)).bind fun x1=>some (Z0.mk a0.Fname x1)
theorem Z16_eq (a0:Z0) (a1:Int) (a2:Bs) (a3:Bs) (a4:Bs) (a5:Bs):Z16 a0 a1 a2 a3 a4 a5=Z16_q a0 a1 a2 a3 a4 a5:=by
 unfold Z16 Z16_q;refine Qs ?_;refine Q.bindO rfl fun x1=>?_;all_goals rfl
def Z23_q (a0:Int):Bs:=bif (decide (a0=(1:Int))) then(([116,121,112,101]:Bs)) else(bif (decide (a0=(2:Int))) then(([105,110,116,101,114,102,97,99,101]:Bs)) else(bif (decide (a0=(3:Int))) then(([117,110,105,111,110]:Bs)) else(bif (decide (a0=(4:Int))) then(([101,110,117,109]:Bs)) else(([105,110,112,117,116]:Bs)))))
theorem Z23_eq (a0:Int):Z23 a0=some (Z23_q a0):=by
 unfold Z23 Z23_q;refine Q.condP ?_ ?_
 ·all_goals rfl
 refine Q.condP ?_ ?_
 ·all_goals rfl
 refine Q.condP ?_ ?_
 ·all_goals rfl
 refine Q.condP ?_ ?_
 ·all_goals rfl
 all_goals rfl
def Z117_q7 (a1:Bs):List Z7->Unit ⊕ ((Z7×Bool))
 | []=>Sum.inl ()
 | h7::r7=>on (h7) fun x15=>bif ((x15.FName==a1)) then(Sum.inr (x15,true)) else(Z117_q7 a1 (r7) )
theorem Z117_l7_qe {a0:TDef}{a1:Bs}  (Kb7:(Unit ⊕ ((Z7×Bool)))->Option (Z7×Bool)) (hend:∀(n7:Nat) (s11_8:Nat) (y9_l0:Z7),Z117_j2   y9_l0=Kb7 (Sum.inl ())) (hret:∀e:(Z7×Bool),some e=Kb7 (Sum.inr e)):∀(n7:Nat) (s11_8:Nat) (y9_l0:Z7),(0<n7/\a0.FFields.l.length<s11_8+n7)->Z117_l7 a0 a1 n7 s11_8 y9_l0=Kb7 (Z117_q7 a1 (a0.FFields.l.drop s11_8) ):=by
 intro n7;induction n7 with
 | zero=>intro s11_8 y9_l0 hn; exact absurd hn.1 (by omega)
 | succ n7 ih7 =>
  intro s11_8 y9_l0 hn;rw [Z117_l7];by_cases hlt:s11_8<a0.FFields.l.length
  ·obtain⟨h7,hh7⟩:=Qa hlt;rw [Q.drop_of hh7,Z117_q7];refine QT hlt ?_;refine Q.bindP hh7 fun x15 hx_x15=>?_;refine Q.condP ?_ ?_
   ·all_goals exact hret _
   all_goals exact ih7 _ _ ⟨by omega,by omega⟩
  rw [dL (by omega),Z117_q7];refine QF hlt ?_;exact hend n7 s11_8 y9_l0
def Z117_q (a0:TDef) (a1:Bs):(Z7×Bool):=on (Z117_q7 a1 a0.FFields.l ) fun o7=>match o7 with|Sum.inl _=>(on (()) fun _=>((Z7.mk ([]:Bs) (Sl.nil:Sl Z9) TRef.zero (Sl.nil:Sl TDir)),false))|Sum.inr e7=>(e7)
theorem Z117_eq (a0:TDef) (a1:Bs):Z117 a0 a1=some (Z117_q a0 a1):=by
 unfold Z117 Z117_q;refine Q.wrapPP fun Kb7 hKb7=>?_;refine Z117_l7_qe  Kb7 ?_ ?_ _ _ _ ⟨Nat.succ_pos _,by omega⟩
 ·intro n7 s11_8 y9_l0;refine Qe (hKb7 _) ?_;try dsimp only
  refine Q.wrapPP fun Kj2 hKj2=>?_;have hj2:∀(y3_l0:Z7),Z117_j2  y3_l0=Kj2 ():=by
   intro y3_l0;refine Qe (hKj2 _) ?_;unfold Z117_j2;all_goals rfl
  all_goals exact hj2 _
 intro e7;refine Qe (hKb7 _) ?_;try dsimp only
 all_goals rfl
def Z119_q7 (a1:Bs):List Z9->Unit ⊕ ((Z9×Bool))
 | []=>Sum.inl ()
 | h7::r7=>on (h7) fun x15=>bif ((x15.FName==a1)) then(Sum.inr (x15,true)) else(Z119_q7 a1 (r7) )
theorem Z119_l7_qe {a0:(Sl Z9)}{a1:Bs}  (Kb7:(Unit ⊕ ((Z9×Bool)))->Option (Z9×Bool)) (hend:∀(n7:Nat) (s10_8:Nat) (y9_l0:Z9),Z119_j2   y9_l0=Kb7 (Sum.inl ())) (hret:∀e:(Z9×Bool),some e=Kb7 (Sum.inr e)):∀(n7:Nat) (s10_8:Nat) (y9_l0:Z9),(0<n7/\a0.l.length<s10_8+n7)->Z119_l7 a0 a1 n7 s10_8 y9_l0=Kb7 (Z119_q7 a1 (a0.l.drop s10_8) ):=by
 intro n7;induction n7 with
 | zero=>intro s10_8 y9_l0 hn; exact absurd hn.1 (by omega)
 | succ n7 ih7 =>
  intro s10_8 y9_l0 hn;rw [Z119_l7];by_cases hlt:s10_8<a0.l.length
  ·obtain⟨h7,hh7⟩:=Qa hlt;rw [Q.drop_of hh7,Z119_q7];refine QT hlt ?_;refine Q.bindP hh7 fun x15 hx_x15=>?_;refine Q.condP ?_ ?_
   ·all_goals exact hret _
   all_goals exact ih7 _ _ ⟨by omega,by omega⟩
  rw [dL (by omega),Z119_q7];refine QF hlt ?_;exact hend n7 s10_8 y9_l0
def Z119_q (a0:(Sl Z9)) (a1:Bs):(Z9×Bool):=on (Z119_q7 a1 a0.l ) fun o7=>match o7 with|Sum.inl _=>(on (()) fun _=>((Z9.mk ([]:Bs) TRef.zero false Z12.zero (Sl.nil:Sl TDir)),false))|Sum.inr e7=>(e7)
theorem Z119_eq (a0:(Sl Z9)) (a1:Bs):Z119 a0 a1=some (Z119_q a0 a1):=by
 unfold Z119 Z119_q;refine Q.wrapPP fun Kb7 hKb7=>?_;refine Z119_l7_qe  Kb7 ?_ ?_ _ _ _ ⟨Nat.succ_pos _,by omega⟩
 ·intro n7 s10_8 y9_l0;refine Qe (hKb7 _) ?_;try dsimp only
  refine Q.wrapPP fun Kj2 hKj2=>?_;have hj2:∀(y3_l0:Z9),Z119_j2  y3_l0=Kj2 ():=by
   intro y3_l0;refine Qe (hKj2 _) ?_;unfold Z119_j2;all_goals rfl
  all_goals exact hj2 _
 intro e7;refine Qe (hKb7 _) ?_;try dsimp only
 all_goals rfl
def Z124_q12 (a1:(Sl Int)):List Int->Nat->Option (Unit ⊕ Bool)
 | [],s13_13=>some (Sum.inl ())
 | h12::r12,s13_13=>on (h12) fun x20=>(a1.l[s13_13]?).bind fun x21=>bif (!decide (x20=x21)) then(some (Sum.inr false)) else(Z124_q12 a1 (r12) (s13_13+1) )
theorem Z124_l12_qe {a0:(Sl Int)}{a1:(Sl Int)}  (Kb12:(Unit ⊕ Bool)->Option Bool) (hend:∀(n12:Nat) (s13_13:Nat),Z124_j8   =Kb12 (Sum.inl ())) (hret:∀e:Bool,some e=Kb12 (Sum.inr e)):∀(n12:Nat) (s13_13:Nat),(0<n12/\a0.l.length<s13_13+n12)->Z124_l12 a0 a1 n12 s13_13=Option.bind (Z124_q12 a1 (a0.l.drop s13_13) s13_13 ) Kb12:=by
 intro n12;induction n12 with
 | zero=>intro s13_13 hn; exact absurd hn.1 (by omega)
 | succ n12 ih12 =>
  intro s13_13 hn;rw [Z124_l12];by_cases hlt:s13_13<a0.l.length
  ·obtain⟨h12,hh12⟩:=Qa hlt;rw [Q.drop_of hh12,Z124_q12];refine QT hlt ?_;refine Q.bindPO hh12 fun x20 hx_x20=>?_;refine Q.bindO rfl fun x21=>?_;refine Q.condO ?_ ?_
   ·all_goals exact hret _
   all_goals exact ih12 _ ⟨by omega,by omega⟩
  rw [dL (by omega),Z124_q12];refine QF hlt ?_;exact hend n12 s13_13
def Z124_q (a0:(Sl Int)) (a1:(Sl Int)):Option Bool:=bif (!decide (((a0.l.length:Nat):Int)=((a1.l.length:Nat):Int))) then(some false) else(Option.bind (Z124_q12 a1 a0.l 0 ) fun o12=>match o12 with|Sum.inl _=>(on (()) fun _=>some true)|Sum.inr e12=>(some e12))
theorem Z124_eq (a0:(Sl Int)) (a1:(Sl Int)):Z124 a0 a1=Z124_q a0 a1:=by
 unfold Z124 Z124_q;refine Qs ?_;refine Q.condO ?_ ?_
 ·all_goals rfl
 refine Q.wrapOO fun Kb12 hKb12=>?_;refine Z124_l12_qe  Kb12 ?_ ?_ _ _ ⟨Nat.succ_pos _,by omega⟩
 ·intro n12 s13_13;refine Qe (hKb12 _) ?_;try dsimp only
  refine Q.wrapPO fun Kj8 hKj8=>?_;have hj8:Z124_j8  =Kj8 ():=by
   refine Qe (hKj8 _) ?_;unfold Z124_j8;all_goals rfl
  all_goals exact hj8
 intro e12;refine Qe (hKb12 _) ?_;try dsimp only
 all_goals rfl
def Z136_q (a0:TRef) (a1:TRef):Option Bool:=guardO (((a0.FName==a1.FName))) (Z124_q a0.FWraps a1.FWraps) false fun x3=>some (((a0.FName==a1.FName))&&x3)
theorem Z136_eq (a0:TRef) (a1:TRef):Z136 a0 a1=Z136_q a0 a1:=by
 unfold Z136 Z136_q;refine Qs ?_;refine Q.guardOO (Z124_eq _ _) fun x3=>?_;all_goals rfl
def Z128_q (a0:Strings_Builder) (a1:Int):Option (Unit×Strings_Builder):=(Z130_q a0).bind fun x3=>(appC 1 x3.Fbuf (⟨false,[a1]⟩:Sl Int)).bind fun x5=>some ((),(Strings_Builder.mk x3.Faddr x5))
theorem Z128_eq (a0:Strings_Builder) (a1:Int):Z128 a0 a1=Z128_q a0 a1:=by
 unfold Z128 Z128_q;refine Qs ?_;refine Q.bindO (Z130_eq _) fun x3=>?_;refine Q.bindO rfl fun x5=>?_;all_goals rfl
def Z135_q (a0:TRef):Option Bs:=Z135 a0
theorem Z135_eq (a0:TRef):Z135 a0=Z135_q a0:=rfl
def Z133_q (a0:Int):Option Bs:=(Z126_q a0).bind fun x3=>some x3
theorem Z133_eq (a0:Int):Z133 a0=Z133_q a0:=by
 unfold Z133 Z133_q;refine Qs ?_;refine Q.bindO (Z126_eq _) fun x3=>?_;all_goals rfl
def Z129_q (a0:Strings_Builder) (a1:Bs):Option (Int×Unit×Strings_Builder):=(Z130_q a0).bind fun x3=>(appC 1 x3.Fbuf (strSl a1)).bind fun x5=>some (((a1.length:Nat):Int),(),(Strings_Builder.mk x3.Faddr x5))
theorem Z129_eq (a0:Strings_Builder) (a1:Bs):Z129 a0 a1=Z129_q a0 a1:=by
 unfold Z129 Z129_q;refine Qs ?_;refine Q.bindO (Z130_eq _) fun x3=>?_;refine Q.bindO rfl fun x5=>?_;all_goals rfl
def Z134_q15 :List UInt8->Strings_Builder->Option (Strings_Builder)
 | [],y17_id3_3=>some y17_id3_3
 | h15::r15,y17_id3_3=>on (h15) fun x25=>on (bif (decide (((x25.toNat:Nat):Int)=(34:Int))) then((decide (((x25.toNat:Nat):Int)=(34:Int)))) else((decide (((x25.toNat:Nat):Int)=(92:Int))))) fun s33_28=>Option.bind (bif s33_28 then((Z128_q y17_id3_3 (92:Int)).bind fun x31=>(Z128_q x31.2 ((x25.toNat:Nat):Int)).bind fun x32=>some x32.2) else(bif (decide (((x25.toNat:Nat):Int)=(10:Int))) then((Z129_q y17_id3_3 ([92,110]:Bs)).bind fun x35=>some x35.2.2) else(bif (decide (((x25.toNat:Nat):Int)=(13:Int))) then((Z129_q y17_id3_3 ([92,114]:Bs)).bind fun x38=>some x38.2.2) else(bif (decide (((x25.toNat:Nat):Int)=(9:Int))) then((Z129_q y17_id3_3 ([92,116]:Bs)).bind fun x41=>some x41.2.2) else(bif ((decide ((32:Int)<=((x25.toNat:Nat):Int)))&&(decide (((x25.toNat:Nat):Int)<=(126:Int)))) then((Z128_q y17_id3_3 ((x25.toNat:Nat):Int)).bind fun x46=>some x46.2) else((Z129_q y17_id3_3 ([92,117,48,48]:Bs)).bind fun x48=>(idxC ([48,49,50,51,52,53,54,55,56,57,97,98,99,100,101,102]:Bs) (Int.fdiv ((x25.toNat:Nat):Int) (2 ^ (min (Int.toNat 4) (IntKind.bits .u8))))).bind fun x50=>(Z128_q x48.2.2 ((x50.toNat:Nat):Int)).bind fun x51=>(idxC ([48,49,50,51,52,53,54,55,56,57,97,98,99,100,101,102]:Bs) (IntKind.wrap .u8 ((BitVec.ofInt (IntKind.bits .u8) ((x25.toNat:Nat):Int) &&& BitVec.ofInt (IntKind.bits .u8) (15:Int)).toNat:Int))).bind fun x52=>(Z128_q x51.2 ((x52.toNat:Nat):Int)).bind fun x53=>some x53.2)))))) fun y22_id3_3=>Z134_q15  (r15) y22_id3_3
theorem Z134_l15_qe {a0:Bs}  (Kb15:(Strings_Builder)->Option Bs) (hend:∀(n15:Nat) (s9_16:Nat) (y17_id3_3:Strings_Builder),Z134_j7   y17_id3_3=Kb15 y17_id3_3):∀(n15:Nat) (s9_16:Nat) (y17_id3_3:Strings_Builder),(0<n15/\a0.length<s9_16+n15)->Z134_l15 a0 n15 s9_16 y17_id3_3=Option.bind (Z134_q15  (a0.drop s9_16) y17_id3_3) Kb15:=by
 intro n15;induction n15 with
 | zero=>intro s9_16 y17_id3_3 hn; exact absurd hn.1 (by omega)
 | succ n15 ih15 =>
  intro s9_16 y17_id3_3 hn;rw [Z134_l15];by_cases hlt:s9_16<a0.length
  ·obtain⟨h15,hh15⟩:=Qa hlt;rw [Q.drop_of hh15,Z134_q15];refine QT hlt ?_;refine Q.bindPO hh15 fun x25 hx_x25=>?_;refine Q.wrapPO fun Kj27 hKj27=>?_;have hj27:∀(s33_28:Bool),Z134_j27 s9_16 y17_id3_3 x25 (Z134_l15 a0 n15) s33_28=Kj27 s33_28:=by
    intro s33_28;refine Qe (hKj27 _) ?_;unfold Z134_j27;refine Q.wrapOO fun Kj21 hKj21=>?_;have hj21:∀(y22_id3_3:Strings_Builder),Z134_j21 s9_16 (Z134_l15 a0 n15) y22_id3_3=Kj21 y22_id3_3:=by
     intro y22_id3_3;refine Qe (hKj21 _) ?_;unfold Z134_j21;all_goals exact ih15 _ _ ⟨by omega,by omega⟩
    refine Q.condO ?_ ?_
    ·refine Q.bindO (Z128_eq _ _) fun x31=>?_;refine Q.bindO (Z128_eq _ _) fun x32=>?_;all_goals exact hj21 _
    refine Q.condO ?_ ?_
    ·refine Q.bindO (Z129_eq _ _) fun x35=>?_;all_goals exact hj21 _
    refine Q.condO ?_ ?_
    ·refine Q.bindO (Z129_eq _ _) fun x38=>?_;all_goals exact hj21 _
    refine Q.condO ?_ ?_
    ·refine Q.bindO (Z129_eq _ _) fun x41=>?_;all_goals exact hj21 _
    refine Q.condO ?_ ?_
    ·refine Q.bindO (Z128_eq _ _) fun x46=>?_;all_goals exact hj21 _
    refine Q.bindO (Z129_eq _ _) fun x48=>?_;refine Q.bindO rfl fun x50=>?_;refine Q.bindO (Z128_eq _ _) fun x51=>?_;refine Q.bindO rfl fun x52=>?_;refine Q.bindO (Z128_eq _ _) fun x53=>?_;all_goals exact hj21 _
   refine Q.condP ?_ ?_
   ·all_goals exact hj27 _
   all_goals exact hj27 _
  rw [dL (by omega),Z134_q15];refine QF hlt ?_;exact hend n15 s9_16 y17_id3_3
def Z134_q (a0:Bs):Option Bs:=(Z128_q Strings_Builder.zero (34:Int)).bind fun x6=>Option.bind (Z134_q15  a0 x6.2) fun y17_id3_3=>on (y17_id3_3) fun y8_id3_3=>(Z128_q y8_id3_3 (34:Int)).bind fun x10=>(Z127_q x10.2).bind fun x12=>some x12
theorem Z134_eq (a0:Bs):Z134 a0=Z134_q a0:=by
 unfold Z134 Z134_q;refine Qs ?_;refine Q.bindO (Z128_eq _ _) fun x6=>?_;refine Q.wrapOO fun Kb15 hKb15=>?_;refine Z134_l15_qe  Kb15 ?_ _ _ _ ⟨Nat.succ_pos _,by omega⟩;intro n15 s9_16 y17_id3_3;refine Qe (hKb15 _) ?_;refine Q.wrapPO fun Kj7 hKj7=>?_;have hj7:∀(y8_id3_3:Strings_Builder),Z134_j7  y8_id3_3=Kj7 y8_id3_3:=by
  intro y8_id3_3;refine Qe (hKj7 _) ?_;unfold Z134_j7;refine Q.bindO (Z128_eq _ _) fun x10=>?_;refine Q.bindO (Z127_eq _) fun x12=>?_;all_goals rfl
 all_goals exact hj7 _
def Z15_q (a0:Z9):Option Bs:=bif (!a0.FHas) then(some ([]:Bs)) else((Z120 a0.FDefault).bind fun x7=>some x7)
theorem Z15_eq (a0:Z9):Z15 a0=Z15_q a0:=by
 unfold Z15 Z15_q;refine Qs ?_;refine Q.condO ?_ ?_
 ·all_goals rfl
 refine Q.bindO rfl fun x7=>?_;all_goals rfl
def Z22_q (a0:Z9):Option Bs:=bif (!a0.FHas) then((Z135_q a0.FType).bind fun x6=>some x6) else((Z135_q a0.FType).bind fun x8=>(catC x8 ([32,61,32]:Bs)).bind fun x9=>(Z15_q a0).bind fun x10=>(catC x9 x10).bind fun x11=>some x11)
theorem Z22_eq (a0:Z9):Z22 a0=Z22_q a0:=by
 unfold Z22 Z22_q;refine Qs ?_;refine Q.condO ?_ ?_
 ·refine Q.bindO (Z135_eq _) fun x6=>?_;all_goals rfl
 refine Q.bindO (Z135_eq _) fun x8=>?_;refine Q.bindO rfl fun x9=>?_;refine Q.bindO (Z15_eq _) fun x10=>?_;refine Q.bindO rfl fun x11=>?_;all_goals rfl
def Z138_q (a0:Z12) (a1:Z12):Option Bool:=(Z137 a0 a1).bind fun x3=>some (decide (x3=(0:Int)))
theorem Z138_eq (a0:Z12) (a1:Z12):Z138 a0 a1=Z138_q a0 a1:=by
 unfold Z138 Z138_q;refine Qs ?_;refine Q.bindO rfl fun x3=>?_;all_goals rfl

def Z21_q26m (a2:(Sl Z9)) (a3:Z1) (a4:(Bs->Option (Bs×Bs))):List Z9->Z0->Option (Z0)
 | [],y28_c0=>some y28_c0
 | h26::r26,y28_c0=>on (h26) fun x35=>(a4 x35.FName).bind fun x37=>on (Z119_q a2 x35.FName) fun x39=>Option.bind (bif (!x39.2) then((Z22_q x35).bind fun x44=>(Z16_q y28_c0 a3.Fgone x37.1 x37.2 x44 ([]:Bs)).bind fun x45=>some x45) else((Z136_q x35.FType x39.1.FType).bind fun x55=>Option.bind (bif (!x55) then((Z135_q x35.FType).bind fun x57=>(Z135_q x39.1.FType).bind fun x58=>(Z16_q y28_c0 a3.Ftyp x37.1 x37.2 x57 x58).bind fun x59=>some x59) else(some y28_c0)) fun y47_c0=>guardO ((!(!(x35.FHas==x39.1.FHas))&&x35.FHas)) (Z138_q x35.FDefault x39.1.FDefault) false fun x49=>bif ((!(x35.FHas==x39.1.FHas))||(x35.FHas&&(!x49))) then((Z15_q x35).bind fun x51=>(Z15_q x39.1).bind fun x52=>(Z16_q y47_c0 a3.Fdef x37.1 x37.2 x51 x52).bind fun x53=>some x53) else(some y47_c0))) fun y33_c0=>Z21_q26m a2 a3 a4 (r26) y33_c0
theorem Z21_l26_qem {a1:(Sl Z9)}{a2:(Sl Z9)}{a3:Z1}{a4:(Bs->Option (Bs×Bs))}  (Kb26:(Z0)->Option Z0) (hend:∀(n26:Nat) (s24_27:Nat) (y28_c0:Z0),Z21_j2 a1 a2 a3 a4  y28_c0=Kb26 y28_c0):∀(n26:Nat) (s24_27:Nat) (y28_c0:Z0),(0<n26/\a1.l.length<s24_27+n26)->Z21_l26 a1 a2 a3 a4 n26 s24_27 y28_c0=Option.bind (Z21_q26m a2 a3 a4 (a1.l.drop s24_27) y28_c0) Kb26:=by
 intro n26;induction n26 with
 | zero=>intro s24_27 y28_c0 hn; exact absurd hn.1 (by omega)
 | succ n26 ih26 =>
  intro s24_27 y28_c0 hn;rw [Z21_l26];by_cases hlt:s24_27<a1.l.length
  ·obtain⟨h26,hh26⟩:=Qa hlt;rw [Q.drop_of hh26,Z21_q26m];refine QT hlt ?_;refine Q.bindPO hh26 fun x35 hx_x35=>?_;refine Q.bindO rfl fun x37=>?_;refine Q.bindPO (Z119_eq _ _) fun x39 hx_x39=>?_;refine Q.wrapOO fun Kj32 hKj32=>?_;have hj32:∀(y33_c0:Z0),Z21_j32 s24_27 (Z21_l26 a1 a2 a3 a4 n26) y33_c0=Kj32 y33_c0:=by
    intro y33_c0;refine Qe (hKj32 _) ?_;unfold Z21_j32;all_goals exact ih26 _ _ ⟨by omega,by omega⟩
   refine Q.condO ?_ ?_
   ·refine Q.bindO (Z22_eq _) fun x44=>?_;refine Q.bindO (Z16_eq _ _ _ _ _ _) fun x45=>?_;all_goals exact hj32 _
   refine Q.bindO (Z136_eq _ _) fun x55=>?_;refine Q.wrapOO fun Kj46 hKj46=>?_;have hj46:∀(y47_c0:Z0),Z21_j46 a3 s24_27 x35 x37 x39 (Z21_l26 a1 a2 a3 a4 n26) y47_c0=Kj46 y47_c0:=by
    intro y47_c0;refine Qe (hKj46 _) ?_;unfold Z21_j46;refine Q.guardOO (Z138_eq _ _) fun x49=>?_;refine Q.condO ?_ ?_
    ·refine Q.bindO (Z15_eq _) fun x51=>?_;refine Q.bindO (Z15_eq _) fun x52=>?_;refine Q.bindO (Z16_eq _ _ _ _ _ _) fun x53=>?_;all_goals exact hj32 _
    all_goals exact hj32 _
   refine Q.condO ?_ ?_
   ·refine Q.bindO (Z135_eq _) fun x57=>?_;refine Q.bindO (Z135_eq _) fun x58=>?_;refine Q.bindO (Z16_eq _ _ _ _ _ _) fun x59=>?_;all_goals exact hj46 _
   all_goals exact hj46 _
  rw [dL (by omega),Z21_q26m];refine QF hlt ?_;exact hend n26 s24_27 y28_c0
def Z21_q6m (a1:(Sl Z9)) (a3:Z1) (a4:(Bs->Option (Bs×Bs))):List Z9->Z0->Option (Z0)
 | [],y8_c0=>some y8_c0
 | h6::r6,y8_c0=>on (h6) fun x15=>on (Z119_q a1 x15.FName) fun x17=>Option.bind (bif (!x17.2) then((a4 x15.FName).bind fun x21=>(Z22_q x15).bind fun x22=>(Z16_q y8_c0 a3.Fadd x21.1 x21.2 ([]:Bs) x22).bind fun x23=>some x23) else(some y8_c0)) fun y13_c0=>Z21_q6m a1 a3 a4 (r6) y13_c0
theorem Z21_l6_qem {a1:(Sl Z9)}{a2:(Sl Z9)}{a3:Z1}{a4:(Bs->Option (Bs×Bs))}  (Kb6:(Z0)->Option Z0) (hend:∀(n6:Nat) (s100_7:Nat) (y8_c0:Z0),some y8_c0=Kb6 y8_c0):∀(n6:Nat) (s100_7:Nat) (y8_c0:Z0),(0<n6/\a2.l.length<s100_7+n6)->Z21_l6 a1 a2 a3 a4 n6 s100_7 y8_c0=Option.bind (Z21_q6m a1 a3 a4 (a2.l.drop s100_7) y8_c0) Kb6:=by
 intro n6;induction n6 with
 | zero=>intro s100_7 y8_c0 hn; exact absurd hn.1 (by omega)
 | succ n6 ih6 =>
  intro s100_7 y8_c0 hn;rw [Z21_l6];by_cases hlt:s100_7<a2.l.length
  ·obtain⟨h6,hh6⟩:=Qa hlt;rw [Q.drop_of hh6,Z21_q6m];refine QT hlt ?_;refine Q.bindPO hh6 fun x15 hx_x15=>?_;refine Q.bindPO (Z119_eq _ _) fun x17 hx_x17=>?_;refine Q.wrapOO fun Kj12 hKj12=>?_;have hj12:∀(y13_c0:Z0),Z21_j12 s100_7 (Z21_l6 a1 a2 a3 a4 n6) y13_c0=Kj12 y13_c0:=by
    intro y13_c0;refine Qe (hKj12 _) ?_;unfold Z21_j12;all_goals exact ih6 _ _ ⟨by omega,by omega⟩
   refine Q.condO ?_ ?_
   ·refine Q.bindO rfl fun x21=>?_;refine Q.bindO (Z22_eq _) fun x22=>?_;refine Q.bindO (Z16_eq _ _ _ _ _ _) fun x23=>?_;all_goals exact hj12 _
   all_goals exact hj12 _
  rw [dL (by omega),Z21_q6m];refine QF hlt ?_;exact hend n6 s100_7 y8_c0
def Z21_qm (a0:Z0) (a1:(Sl Z9)) (a2:(Sl Z9)) (a3:Z1) (a4:(Bs->Option (Bs×Bs))):Option Z0:=Option.bind (Z21_q26m a2 a3 a4 a1.l a0) fun y28_c0=>on (y28_c0) fun y3_c0=>Option.bind (Z21_q6m a1 a3 a4 a2.l y3_c0) fun y8_c0=>some y8_c0
theorem Z21_eqm (a0:Z0) (a1:(Sl Z9)) (a2:(Sl Z9)) (a3:Z1) (a4:(Bs->Option (Bs×Bs))):Z21 a0 a1 a2 a3 a4=Z21_qm a0 a1 a2 a3 a4:=by
 unfold Z21 Z21_qm;refine Qs ?_;refine Q.wrapOO fun Kb26 hKb26=>?_;refine Z21_l26_qem  Kb26 ?_ _ _ _ ⟨Nat.succ_pos _,by omega⟩;intro n26 s24_27 y28_c0;refine Qe (hKb26 _) ?_;refine Q.wrapPO fun Kj2 hKj2=>?_;have hj2:∀(y3_c0:Z0),Z21_j2 a1 a2 a3 a4 y3_c0=Kj2 y3_c0:=by
  intro y3_c0;refine Qe (hKj2 _) ?_;unfold Z21_j2;refine Q.wrapOO fun Kb6 hKb6=>?_;refine Z21_l6_qem  Kb6 ?_ _ _ _ ⟨Nat.succ_pos _,by omega⟩;intro n6 s100_7 y8_c0;refine Qe (hKb6 _) ?_;all_goals rfl
 all_goals exact hj2 _
def Z20_q (a0:Bs) (a1:Z7):(Bs×Bs):=(a1.FName,a0)
theorem Z20_eq (a0:Bs) (a1:Z7):Z20 a0 a1=some (Z20_q a0 a1):=by
 unfold Z20 Z20_q;all_goals rfl
def Z19_q24 (a2:TDef):List Z7->Z0->Option (Z0)
 | [],y26_c0=>some y26_c0
 | h24::r24,y26_c0=>on (h24) fun x33=>on (Z117_q a2 x33.FName) fun x35=>Option.bind (bif (!x35.2) then((Z135_q x33.FType).bind fun x40=>(Z16_q y26_c0 (4:Int) x33.FName ([]:Bs) x40 ([]:Bs)).bind fun x41=>some x41) else((Z136_q x33.FType x35.1.FType).bind fun x46=>Option.bind (bif (!x46) then((Z135_q x33.FType).bind fun x48=>(Z135_q x35.1.FType).bind fun x49=>(Z16_q y26_c0 (6:Int) x33.FName ([]:Bs) x48 x49).bind fun x50=>some x50) else(some y26_c0)) fun y43_c0=>(Z21_qm y43_c0 x33.FArgs x35.1.FArgs (Z1.mk (7:Int) (8:Int) (9:Int) (10:Int)) (fun y0=>some (Z20_q y0 x33))).bind fun x44=>some x44)) fun y31_c0=>Z19_q24 a2 (r24) y31_c0
theorem Z19_l24_qe {a1:TDef}{a2:TDef}  (Kb24:(Z0)->Option Z0) (hend:∀(n24:Nat) (s17_25:Nat) (y26_c0:Z0),Z19_j2 a1 a2  y26_c0=Kb24 y26_c0):∀(n24:Nat) (s17_25:Nat) (y26_c0:Z0),(0<n24/\a1.FFields.l.length<s17_25+n24)->Z19_l24 a1 a2 n24 s17_25 y26_c0=Option.bind (Z19_q24 a2 (a1.FFields.l.drop s17_25) y26_c0) Kb24:=by
 intro n24;induction n24 with
 | zero=>intro s17_25 y26_c0 hn; exact absurd hn.1 (by omega)
 | succ n24 ih24 =>
  intro s17_25 y26_c0 hn;rw [Z19_l24];by_cases hlt:s17_25<a1.FFields.l.length
  ·obtain⟨h24,hh24⟩:=Qa hlt;rw [Q.drop_of hh24,Z19_q24];refine QT hlt ?_;refine Q.bindPO hh24 fun x33 hx_x33=>?_;refine Q.bindPO (Z117_eq _ _) fun x35 hx_x35=>?_;refine Q.wrapOO fun Kj30 hKj30=>?_;have hj30:∀(y31_c0:Z0),Z19_j30 s17_25 (Z19_l24 a1 a2 n24) y31_c0=Kj30 y31_c0:=by
    intro y31_c0;refine Qe (hKj30 _) ?_;unfold Z19_j30;all_goals exact ih24 _ _ ⟨by omega,by omega⟩
   refine Q.condO ?_ ?_
   ·refine Q.bindO (Z135_eq _) fun x40=>?_;refine Q.bindO (Z16_eq _ _ _ _ _ _) fun x41=>?_;all_goals exact hj30 _
   refine Q.bindO (Z136_eq _ _) fun x46=>?_;refine Q.wrapOO fun Kj42 hKj42=>?_;have hj42:∀(y43_c0:Z0),Z19_j42 s17_25 x33 x35 (Z19_l24 a1 a2 n24) y43_c0=Kj42 y43_c0:=by
    intro y43_c0;refine Qe (hKj42 _) ?_;unfold Z19_j42;refine Q.bindO (by simp only [Z20_eq,Z21_eqm]) fun x44=>?_;all_goals exact hj30 _
   refine Q.condO ?_ ?_
   ·refine Q.bindO (Z135_eq _) fun x48=>?_;refine Q.bindO (Z135_eq _) fun x49=>?_;refine Q.bindO (Z16_eq _ _ _ _ _ _) fun x50=>?_;all_goals exact hj42 _
   all_goals exact hj42 _
  rw [dL (by omega),Z19_q24];refine QF hlt ?_;exact hend n24 s17_25 y26_c0
def Z19_q6 (a1:TDef):List Z7->Z0->Option (Z0)
 | [],y8_c0=>some y8_c0
 | h6::r6,y8_c0=>on (h6) fun x15=>on (Z117_q a1 x15.FName) fun x17=>Option.bind (bif (!x17.2) then((Z135_q x15.FType).bind fun x20=>(Z16_q y8_c0 (5:Int) x15.FName ([]:Bs) ([]:Bs) x20).bind fun x21=>some x21) else(some y8_c0)) fun y13_c0=>Z19_q6 a1 (r6) y13_c0
theorem Z19_l6_qe {a1:TDef}{a2:TDef}  (Kb6:(Z0)->Option Z0) (hend:∀(n6:Nat) (s65_7:Nat) (y8_c0:Z0),some y8_c0=Kb6 y8_c0):∀(n6:Nat) (s65_7:Nat) (y8_c0:Z0),(0<n6/\a2.FFields.l.length<s65_7+n6)->Z19_l6 a1 a2 n6 s65_7 y8_c0=Option.bind (Z19_q6 a1 (a2.FFields.l.drop s65_7) y8_c0) Kb6:=by
 intro n6;induction n6 with
 | zero=>intro s65_7 y8_c0 hn; exact absurd hn.1 (by omega)
 | succ n6 ih6 =>
  intro s65_7 y8_c0 hn;rw [Z19_l6];by_cases hlt:s65_7<a2.FFields.l.length
  ·obtain⟨h6,hh6⟩:=Qa hlt;rw [Q.drop_of hh6,Z19_q6];refine QT hlt ?_;refine Q.bindPO hh6 fun x15 hx_x15=>?_;refine Q.bindPO (Z117_eq _ _) fun x17 hx_x17=>?_;refine Q.wrapOO fun Kj12 hKj12=>?_;have hj12:∀(y13_c0:Z0),Z19_j12 s65_7 (Z19_l6 a1 a2 n6) y13_c0=Kj12 y13_c0:=by
    intro y13_c0;refine Qe (hKj12 _) ?_;unfold Z19_j12;all_goals exact ih6 _ _ ⟨by omega,by omega⟩
   refine Q.condO ?_ ?_
   ·refine Q.bindO (Z135_eq _) fun x20=>?_;refine Q.bindO (Z16_eq _ _ _ _ _ _) fun x21=>?_;all_goals exact hj12 _
   all_goals exact hj12 _
  rw [dL (by omega),Z19_q6];refine QF hlt ?_;exact hend n6 s65_7 y8_c0
def Z19_q (a0:Z0) (a1:TDef) (a2:TDef):Option Z0:=Option.bind (Z19_q24 a2 a1.FFields.l a0) fun y26_c0=>on (y26_c0) fun y3_c0=>Option.bind (Z19_q6 a1 a2.FFields.l y3_c0) fun y8_c0=>some y8_c0
theorem Z19_eq (a0:Z0) (a1:TDef) (a2:TDef):Z19 a0 a1 a2=Z19_q a0 a1 a2:=by
 unfold Z19 Z19_q;refine Qs ?_;refine Q.wrapOO fun Kb24 hKb24=>?_;refine Z19_l24_qe  Kb24 ?_ _ _ _ ⟨Nat.succ_pos _,by omega⟩;intro n24 s17_25 y26_c0;refine Qe (hKb24 _) ?_;refine Q.wrapPO fun Kj2 hKj2=>?_;have hj2:∀(y3_c0:Z0),Z19_j2 a1 a2 y3_c0=Kj2 y3_c0:=by
  intro y3_c0;refine Qe (hKj2 _) ?_;unfold Z19_j2;refine Q.wrapOO fun Kb6 hKb6=>?_;refine Z19_l6_qe  Kb6 ?_ _ _ _ ⟨Nat.succ_pos _,by omega⟩;intro n6 s65_7 y8_c0;refine Qe (hKb6 _) ?_;all_goals rfl
 all_goals exact hj2 _
end Go.Proofs

namespace Go.Proofs
open Go Go.Ab
def Z26_q8 :List Z10->(Sl Bs)->Option ((Sl Bs))
 | [],s3_9=>some s3_9
 | h8::r8,s3_9=>on (h8) fun x16=>(appC 16 s3_9 (⟨false,[x16.FName]⟩:Sl Bs)).bind fun x17=>Z26_q8  (r8) x17
theorem Z26_l8_qe {a0:(Sl Z10)}  (Kb8:((Sl Bs))->Option (Sl Bs)) (hend:∀(n8:Nat) (s3_9:(Sl Bs)) (s8_10:Nat),Z26_j3   s3_9=Kb8 s3_9):∀(n8:Nat) (s3_9:(Sl Bs)) (s8_10:Nat),(0<n8/\a0.l.length<s8_10+n8)->Z26_l8 a0 n8 s3_9 s8_10=Option.bind (Z26_q8  (a0.l.drop s8_10) s3_9) Kb8:=by
 intro n8;induction n8 with
 | zero=>intro s3_9 s8_10 hn; exact absurd hn.1 (by omega)
 | succ n8 ih8 =>
  intro s3_9 s8_10 hn;rw [Z26_l8];by_cases hlt:s8_10<a0.l.length
  ·obtain⟨h8,hh8⟩:=Qa hlt;rw [Q.drop_of hh8,Z26_q8];refine QT hlt ?_;refine Q.bindPO hh8 fun x16 hx_x16=>?_;refine Q.bindO rfl fun x17=>?_;all_goals exact ih8 _ _ ⟨by omega,by omega⟩
  rw [dL (by omega),Z26_q8];refine QF hlt ?_;exact hend n8 s3_9 s8_10
def Z26_q (a0:(Sl Z10)):Option (Sl Bs):=Option.bind (Z26_q8  a0.l (Sl.nil:Sl Bs)) fun s3_9=>on (s3_9) fun s3_4=>some s3_4
theorem Z26_eq (a0:(Sl Z10)):Z26 a0=Z26_q a0:=by
 unfold Z26 Z26_q;refine Qs ?_;refine Q.wrapOO fun Kb8 hKb8=>?_;refine Z26_l8_qe  Kb8 ?_ _ _ _ ⟨Nat.succ_pos _,by omega⟩;intro n8 s3_9 s8_10;refine Qe (hKb8 _) ?_;refine Q.wrapPO fun Kj3 hKj3=>?_;have hj3:∀(s3_4:(Sl Bs)),Z26_j3  s3_4=Kj3 s3_4:=by
  intro s3_4;refine Qe (hKj3 _) ?_;unfold Z26_j3;all_goals rfl
 all_goals exact hj3 _
def Z121_q (a0:(Sl Bs)):Option (Sl Bs):=bif a0.nl then(some (Sl.nil:Sl Bs)) else((appC 16 (⟨false,[]⟩:Sl Bs) a0).bind fun x7=>some x7)
theorem Z121_eq (a0:(Sl Bs)):Z121 a0=Z121_q a0:=by
 unfold Z121 Z121_q;refine Qs ?_;refine Q.condO ?_ ?_
 ·all_goals rfl
 refine Q.bindO rfl fun x7=>?_;all_goals rfl
def Z125_q6 (a1:Bs):List Bs->Nat->Unit ⊕ Int
 | [],s8_7=>Sum.inl ()
 | h6::r6,s8_7=>on (h6) fun x14=>bif ((a1==x14)) then(Sum.inr ((s8_7:Nat):Int)) else(Z125_q6 a1 (r6) (s8_7+1) )
theorem Z125_l6_qe {a0:(Sl Bs)}{a1:Bs}  (Kb6:(Unit ⊕ Int)->Option Int) (hend:∀(n6:Nat) (s8_7:Nat),Z125_j2   =Kb6 (Sum.inl ())) (hret:∀e:Int,some e=Kb6 (Sum.inr e)):∀(n6:Nat) (s8_7:Nat),(0<n6/\a0.l.length<s8_7+n6)->Z125_l6 a0 a1 n6 s8_7=Kb6 (Z125_q6 a1 (a0.l.drop s8_7) s8_7 ):=by
 intro n6;induction n6 with
 | zero=>intro s8_7 hn; exact absurd hn.1 (by omega)
 | succ n6 ih6 =>
  intro s8_7 hn;rw [Z125_l6];by_cases hlt:s8_7<a0.l.length
  ·obtain⟨h6,hh6⟩:=Qa hlt;rw [Q.drop_of hh6,Z125_q6];refine QT hlt ?_;refine Q.bindP hh6 fun x14 hx_x14=>?_;refine Q.condP ?_ ?_
   ·all_goals exact hret _
   all_goals exact ih6 _ ⟨by omega,by omega⟩
  rw [dL (by omega),Z125_q6];refine QF hlt ?_;exact hend n6 s8_7
def Z125_q (a0:(Sl Bs)) (a1:Bs):Int:=on (Z125_q6 a1 a0.l 0 ) fun o6=>match o6 with|Sum.inl _=>(on (()) fun _=>(-1:Int))|Sum.inr e6=>(e6)
theorem Z125_eq (a0:(Sl Bs)) (a1:Bs):Z125 a0 a1=some (Z125_q a0 a1):=by
 unfold Z125 Z125_q;refine Q.wrapPP fun Kb6 hKb6=>?_;refine Z125_l6_qe  Kb6 ?_ ?_ _ _ ⟨Nat.succ_pos _,by omega⟩
 ·intro n6 s8_7;refine Qe (hKb6 _) ?_;try dsimp only
  refine Q.wrapPP fun Kj2 hKj2=>?_;have hj2:Z125_j2  =Kj2 ():=by
   refine Qe (hKj2 _) ?_;unfold Z125_j2;all_goals rfl
  all_goals exact hj2
 intro e6;refine Qe (hKb6 _) ?_;try dsimp only
 all_goals rfl
def Z122_q (a0:(Sl Bs)) (a1:Bs):Bool:=on (Z125_q a0 a1) fun x3=>(decide ((0:Int)<=x3))
theorem Z122_eq (a0:(Sl Bs)) (a1:Bs):Z122 a0 a1=some (Z122_q a0 a1):=by
 unfold Z122 Z122_q;refine Q.bindP (Z125_eq _ _) fun x3 hx_x3=>?_;all_goals rfl
def Z25_q (a0:Bs) (a1:(Sl Bs)):Bool:=on (Z122_q a1 a0) fun x3=>x3
theorem Z25_eq (a0:Bs) (a1:(Sl Bs)):Z25 a0 a1=some (Z25_q a0 a1):=by
 unfold Z25 Z25_q;refine Q.bindP (Z122_eq _ _) fun x3 hx_x3=>?_;all_goals rfl
def Z24_q (a0:(Sl Bs)) (a1:(Sl Bs)):Option (Sl Bs):=(Z121_q a0).bind fun x3=>(some (delL (fun y0=>Z25 y0 a1) x3)).bind fun x4=>some x4
theorem Z24_eq (a0:(Sl Bs)) (a1:(Sl Bs)):Z24 a0 a1=Z24_q a0 a1:=by
 unfold Z24 Z24_q;refine Qs ?_;refine Q.bindO (Z121_eq _) fun x3=>?_;refine Q.bindO rfl fun x4=>?_;all_goals rfl
def Z17_q57 :List Bs->Z0->Option (Z0)
 | [],y59_c0=>some y59_c0
 | h57::r57,y59_c0=>on (h57) fun x65=>(Z16_q y59_c0 (11:Int) x65 ([]:Bs) ([]:Bs) ([]:Bs)).bind fun x66=>Z17_q57  (r57) x66
theorem Z17_l57_qe {a1:TDef}{a2:TDef}{x5:(Sl Bs)}{x6:(Sl Bs)}{x55:(Sl Bs)}  (Kb57:(Z0)->Option Z0) (hend:∀(n57:Nat) (s30_58:Nat) (y59_c0:Z0),Z17_j7 a1 a2 x5 x6  y59_c0=Kb57 y59_c0):∀(n57:Nat) (s30_58:Nat) (y59_c0:Z0),(0<n57/\x55.l.length<s30_58+n57)->Z17_l57 a1 a2 x5 x6 x55 n57 s30_58 y59_c0=Option.bind (Z17_q57  (x55.l.drop s30_58) y59_c0) Kb57:=by
 intro n57;induction n57 with
 | zero=>intro s30_58 y59_c0 hn; exact absurd hn.1 (by omega)
 | succ n57 ih57 =>
  intro s30_58 y59_c0 hn;rw [Z17_l57];by_cases hlt:s30_58<x55.l.length
  ·obtain⟨h57,hh57⟩:=Qa hlt;rw [Q.drop_of hh57,Z17_q57];refine QT hlt ?_;refine Q.bindPO hh57 fun x65 hx_x65=>?_;refine Q.bindO (Z16_eq _ _ _ _ _ _) fun x66=>?_;all_goals exact ih57 _ _ ⟨by omega,by omega⟩
  rw [dL (by omega),Z17_q57];refine QF hlt ?_;exact hend n57 s30_58 y59_c0
def Z17_q44 :List Bs->Z0->Option (Z0)
 | [],y46_c0=>some y46_c0
 | h44::r44,y46_c0=>on (h44) fun x52=>(Z16_q y46_c0 (12:Int) x52 ([]:Bs) ([]:Bs) ([]:Bs)).bind fun x53=>Z17_q44  (r44) x53
theorem Z17_l44_qe {a1:TDef}{a2:TDef}{x42:(Sl Bs)}  (Kb44:(Z0)->Option Z0) (hend:∀(n44:Nat) (s42_45:Nat) (y46_c0:Z0),Z17_j9 a1 a2  y46_c0=Kb44 y46_c0):∀(n44:Nat) (s42_45:Nat) (y46_c0:Z0),(0<n44/\x42.l.length<s42_45+n44)->Z17_l44 a1 a2 x42 n44 s42_45 y46_c0=Option.bind (Z17_q44  (x42.l.drop s42_45) y46_c0) Kb44:=by
 intro n44;induction n44 with
 | zero=>intro s42_45 y46_c0 hn; exact absurd hn.1 (by omega)
 | succ n44 ih44 =>
  intro s42_45 y46_c0 hn;rw [Z17_l44];by_cases hlt:s42_45<x42.l.length
  ·obtain⟨h44,hh44⟩:=Qa hlt;rw [Q.drop_of hh44,Z17_q44];refine QT hlt ?_;refine Q.bindPO hh44 fun x52 hx_x52=>?_;refine Q.bindO (Z16_eq _ _ _ _ _ _) fun x53=>?_;all_goals exact ih44 _ _ ⟨by omega,by omega⟩
  rw [dL (by omega),Z17_q44];refine QF hlt ?_;exact hend n44 s42_45 y46_c0
def Z17_q31 :List Bs->Z0->Option (Z0)
 | [],y33_c0=>some y33_c0
 | h31::r31,y33_c0=>on (h31) fun x39=>(Z16_q y33_c0 (17:Int) ([]:Bs) ([]:Bs) x39 ([]:Bs)).bind fun x40=>Z17_q31  (r31) x40
theorem Z17_l31_qe {a1:TDef}{a2:TDef}{x29:(Sl Bs)}  (Kb31:(Z0)->Option Z0) (hend:∀(n31:Nat) (s63_32:Nat) (y33_c0:Z0),Z17_j13 a1 a2  y33_c0=Kb31 y33_c0):∀(n31:Nat) (s63_32:Nat) (y33_c0:Z0),(0<n31/\x29.l.length<s63_32+n31)->Z17_l31 a1 a2 x29 n31 s63_32 y33_c0=Option.bind (Z17_q31  (x29.l.drop s63_32) y33_c0) Kb31:=by
 intro n31;induction n31 with
 | zero=>intro s63_32 y33_c0 hn; exact absurd hn.1 (by omega)
 | succ n31 ih31 =>
  intro s63_32 y33_c0 hn;rw [Z17_l31];by_cases hlt:s63_32<x29.l.length
  ·obtain⟨h31,hh31⟩:=Qa hlt;rw [Q.drop_of hh31,Z17_q31];refine QT hlt ?_;refine Q.bindPO hh31 fun x39 hx_x39=>?_;refine Q.bindO (Z16_eq _ _ _ _ _ _) fun x40=>?_;all_goals exact ih31 _ _ ⟨by omega,by omega⟩
  rw [dL (by omega),Z17_q31];refine QF hlt ?_;exact hend n31 s63_32 y33_c0
def Z17_q18 :List Bs->Z0->Option (Z0)
 | [],y20_c0=>some y20_c0
 | h18::r18,y20_c0=>on (h18) fun x26=>(Z16_q y20_c0 (18:Int) ([]:Bs) ([]:Bs) ([]:Bs) x26).bind fun x27=>Z17_q18  (r18) x27
theorem Z17_l18_qe {x16:(Sl Bs)}  (Kb18:(Z0)->Option Z0) (hend:∀(n18:Nat) (s77_19:Nat) (y20_c0:Z0),some y20_c0=Kb18 y20_c0):∀(n18:Nat) (s77_19:Nat) (y20_c0:Z0),(0<n18/\x16.l.length<s77_19+n18)->Z17_l18 x16 n18 s77_19 y20_c0=Option.bind (Z17_q18  (x16.l.drop s77_19) y20_c0) Kb18:=by
 intro n18;induction n18 with
 | zero=>intro s77_19 y20_c0 hn; exact absurd hn.1 (by omega)
 | succ n18 ih18 =>
  intro s77_19 y20_c0 hn;rw [Z17_l18];by_cases hlt:s77_19<x16.l.length
  ·obtain⟨h18,hh18⟩:=Qa hlt;rw [Q.drop_of hh18,Z17_q18];refine QT hlt ?_;refine Q.bindPO hh18 fun x26 hx_x26=>?_;refine Q.bindO (Z16_eq _ _ _ _ _ _) fun x27=>?_;all_goals exact ih18 _ _ ⟨by omega,by omega⟩
  rw [dL (by omega),Z17_q18];refine QF hlt ?_;exact hend n18 s77_19 y20_c0
def Z17_q (a0:Z0) (a1:TDef) (a2:TDef):Option Z0:=(Z19_q a0 a1 a2).bind fun x3=>(Z26_q a1.FMembers).bind fun x5=>(Z26_q a2.FMembers).bind fun x6=>(Z24_q x5 x6).bind fun x55=>Option.bind (Z17_q57  x55.l x3) fun y59_c0=>on (y59_c0) fun y8_c0=>(Z24_q x6 x5).bind fun x42=>Option.bind (Z17_q44  x42.l y8_c0) fun y46_c0=>on (y46_c0) fun y10_c0=>(Z21_qm y10_c0 a1.FInputs a2.FInputs (Z1.mk (13:Int) (14:Int) (15:Int) (16:Int)) Z18).bind fun x12=>(Z24_q a1.FImplements a2.FImplements).bind fun x29=>Option.bind (Z17_q31  x29.l x12) fun y33_c0=>on (y33_c0) fun y14_c0=>(Z24_q a2.FImplements a1.FImplements).bind fun x16=>Option.bind (Z17_q18  x16.l y14_c0) fun y20_c0=>some y20_c0
theorem Z17_eq (a0:Z0) (a1:TDef) (a2:TDef):Z17 a0 a1 a2=Z17_q a0 a1 a2:=by
 unfold Z17 Z17_q;refine Qs ?_;refine Q.bindO (Z19_eq _ _ _) fun x3=>?_;refine Q.bindO (Z26_eq _) fun x5=>?_;refine Q.bindO (Z26_eq _) fun x6=>?_;refine Q.bindO (Z24_eq _ _) fun x55=>?_;refine Q.wrapOO fun Kb57 hKb57=>?_;refine Z17_l57_qe  Kb57 ?_ _ _ _ ⟨Nat.succ_pos _,by omega⟩;intro n57 s30_58 y59_c0;refine Qe (hKb57 _) ?_;refine Q.wrapPO fun Kj7 hKj7=>?_;have hj7:∀(y8_c0:Z0),Z17_j7 a1 a2 x5 x6 y8_c0=Kj7 y8_c0:=by
  intro y8_c0;refine Qe (hKj7 _) ?_;unfold Z17_j7;refine Q.bindO (Z24_eq _ _) fun x42=>?_;refine Q.wrapOO fun Kb44 hKb44=>?_;refine Z17_l44_qe  Kb44 ?_ _ _ _ ⟨Nat.succ_pos _,by omega⟩;intro n44 s42_45 y46_c0;refine Qe (hKb44 _) ?_;refine Q.wrapPO fun Kj9 hKj9=>?_;have hj9:∀(y10_c0:Z0),Z17_j9 a1 a2 y10_c0=Kj9 y10_c0:=by
   intro y10_c0;refine Qe (hKj9 _) ?_;unfold Z17_j9;refine Q.bindO (by simp only [Z21_eqm]) fun x12=>?_;refine Q.bindO (Z24_eq _ _) fun x29=>?_;refine Q.wrapOO fun Kb31 hKb31=>?_;refine Z17_l31_qe  Kb31 ?_ _ _ _ ⟨Nat.succ_pos _,by omega⟩;intro n31 s63_32 y33_c0;refine Qe (hKb31 _) ?_;refine Q.wrapPO fun Kj13 hKj13=>?_;have hj13:∀(y14_c0:Z0),Z17_j13 a1 a2 y14_c0=Kj13 y14_c0:=by
    intro y14_c0;refine Qe (hKj13 _) ?_;unfold Z17_j13;refine Q.bindO (Z24_eq _ _) fun x16=>?_;refine Q.wrapOO fun Kb18 hKb18=>?_;refine Z17_l18_qe  Kb18 ?_ _ _ _ ⟨Nat.succ_pos _,by omega⟩;intro n18 s77_19 y20_c0;refine Qe (hKb18 _) ?_;all_goals rfl
   all_goals exact hj13 _
  all_goals exact hj9 _
 all_goals exact hj7 _
def Z14_q56 (a1:TDoc):List TDef->Z0->Option (Z0)
 | [],y58_id19_3=>some y58_id19_3
 | h56::r56,y58_id19_3=>on (h56) fun x65=>on (Z118_q a1 x65.FName) fun x68=>Option.bind (bif (!x68.2) then(on (Z23_q x65.FKind) fun x71=>(Z16_q (Z0.mk x65.FName y58_id19_3.Fout) (1:Int) ([]:Bs) ([]:Bs) x71 ([]:Bs)).bind fun x72=>some x72) else(some (Z0.mk x65.FName y58_id19_3.Fout))) fun y63_id19_3=>Z14_q56 a1 (r56) y63_id19_3
theorem Z14_l56_qe {a0:TDoc}{a1:TDoc}  (Kb56:(Z0)->Option (Sl Z5)) (hend:∀(n56:Nat) (s23_57:Nat) (y58_id19_3:Z0),Z14_j5 a0 a1  y58_id19_3=Kb56 y58_id19_3):∀(n56:Nat) (s23_57:Nat) (y58_id19_3:Z0),(0<n56/\a0.FDefs.l.length<s23_57+n56)->Z14_l56 a0 a1 n56 s23_57 y58_id19_3=Option.bind (Z14_q56 a1 (a0.FDefs.l.drop s23_57) y58_id19_3) Kb56:=by
 intro n56;induction n56 with
 | zero=>intro s23_57 y58_id19_3 hn; exact absurd hn.1 (by omega)
 | succ n56 ih56 =>
  intro s23_57 y58_id19_3 hn;rw [Z14_l56];by_cases hlt:s23_57<a0.FDefs.l.length
  ·obtain⟨h56,hh56⟩:=Qa hlt;rw [Q.drop_of hh56,Z14_q56];refine QT hlt ?_;refine Q.bindPO hh56 fun x65 hx_x65=>?_;refine Q.bindPO (Z118_eq _ _) fun x68 hx_x68=>?_;refine Q.wrapOO fun Kj62 hKj62=>?_;have hj62:∀(y63_id19_3:Z0),Z14_j62 s23_57 (Z14_l56 a0 a1 n56) y63_id19_3=Kj62 y63_id19_3:=by
    intro y63_id19_3;refine Qe (hKj62 _) ?_;unfold Z14_j62;all_goals exact ih56 _ _ ⟨by omega,by omega⟩
   refine Q.condO ?_ ?_
   ·refine Q.bindPO (Z23_eq _) fun x71 hx_x71=>?_;refine Q.bindO (Z16_eq _ _ _ _ _ _) fun x72=>?_;all_goals exact hj62 _
   all_goals exact hj62 _
  rw [dL (by omega),Z14_q56];refine QF hlt ?_;exact hend n56 s23_57 y58_id19_3
def Z14_q33 (a1:TDoc):List TDef->Z0->Option (Z0)
 | [],y35_id19_3=>some y35_id19_3
 | h33::r33,y35_id19_3=>on (h33) fun x42=>on (Z118_q a1 x42.FName) fun x45=>Option.bind (bif (!x45.2) then(some (Z0.mk x42.FName y35_id19_3.Fout)) else(bif (!decide (x42.FKind=x45.1.FKind)) then(on (Z23_q x42.FKind) fun x50=>on (Z23_q x45.1.FKind) fun x51=>(Z16_q (Z0.mk x42.FName y35_id19_3.Fout) (3:Int) ([]:Bs) ([]:Bs) x50 x51).bind fun x52=>some x52) else((Z17_q (Z0.mk x42.FName y35_id19_3.Fout) x42 x45.1).bind fun x53=>some x53))) fun y40_id19_3=>Z14_q33 a1 (r33) y40_id19_3
theorem Z14_l33_qe {a0:TDoc}{a1:TDoc}  (Kb33:(Z0)->Option (Sl Z5)) (hend:∀(n33:Nat) (s50_34:Nat) (y35_id19_3:Z0),Z14_j7 a0 a1  y35_id19_3=Kb33 y35_id19_3):∀(n33:Nat) (s50_34:Nat) (y35_id19_3:Z0),(0<n33/\a0.FDefs.l.length<s50_34+n33)->Z14_l33 a0 a1 n33 s50_34 y35_id19_3=Option.bind (Z14_q33 a1 (a0.FDefs.l.drop s50_34) y35_id19_3) Kb33:=by
 intro n33;induction n33 with
 | zero=>intro s50_34 y35_id19_3 hn; exact absurd hn.1 (by omega)
 | succ n33 ih33 =>
  intro s50_34 y35_id19_3 hn;rw [Z14_l33];by_cases hlt:s50_34<a0.FDefs.l.length
  ·obtain⟨h33,hh33⟩:=Qa hlt;rw [Q.drop_of hh33,Z14_q33];refine QT hlt ?_;refine Q.bindPO hh33 fun x42 hx_x42=>?_;refine Q.bindPO (Z118_eq _ _) fun x45 hx_x45=>?_;refine Q.wrapOO fun Kj39 hKj39=>?_;have hj39:∀(y40_id19_3:Z0),Z14_j39 s50_34 (Z14_l33 a0 a1 n33) y40_id19_3=Kj39 y40_id19_3:=by
    intro y40_id19_3;refine Qe (hKj39 _) ?_;unfold Z14_j39;all_goals exact ih33 _ _ ⟨by omega,by omega⟩
   refine Q.condO ?_ ?_
   ·all_goals exact hj39 _
   refine Q.condO ?_ ?_
   ·refine Q.bindPO (Z23_eq _) fun x50 hx_x50=>?_;refine Q.bindPO (Z23_eq _) fun x51 hx_x51=>?_;refine Q.bindO (Z16_eq _ _ _ _ _ _) fun x52=>?_;all_goals exact hj39 _
   refine Q.bindO (Z17_eq _ _ _) fun x53=>?_;all_goals exact hj39 _
  rw [dL (by omega),Z14_q33];refine QF hlt ?_;exact hend n33 s50_34 y35_id19_3
def Z14_q14 (a0:TDoc):List TDef->Z0->Option (Z0)
 | [],y16_id19_3=>some y16_id19_3
 | h14::r14,y16_id19_3=>on (h14) fun x23=>on (Z118_q a0 x23.FName) fun x26=>Option.bind (bif (!x26.2) then(on (Z23_q x23.FKind) fun x29=>(Z16_q (Z0.mk x23.FName y16_id19_3.Fout) (2:Int) ([]:Bs) ([]:Bs) ([]:Bs) x29).bind fun x30=>some x30) else(some (Z0.mk x23.FName y16_id19_3.Fout))) fun y21_id19_3=>Z14_q14 a0 (r14) y21_id19_3
theorem Z14_l14_qe {a0:TDoc}{a1:TDoc}  (Kb14:(Z0)->Option (Sl Z5)) (hend:∀(n14:Nat) (s91_15:Nat) (y16_id19_3:Z0),Z14_j9   y16_id19_3=Kb14 y16_id19_3):∀(n14:Nat) (s91_15:Nat) (y16_id19_3:Z0),(0<n14/\a1.FDefs.l.length<s91_15+n14)->Z14_l14 a0 a1 n14 s91_15 y16_id19_3=Option.bind (Z14_q14 a0 (a1.FDefs.l.drop s91_15) y16_id19_3) Kb14:=by
 intro n14;induction n14 with
 | zero=>intro s91_15 y16_id19_3 hn; exact absurd hn.1 (by omega)
 | succ n14 ih14 =>
  intro s91_15 y16_id19_3 hn;rw [Z14_l14];by_cases hlt:s91_15<a1.FDefs.l.length
  ·obtain⟨h14,hh14⟩:=Qa hlt;rw [Q.drop_of hh14,Z14_q14];refine QT hlt ?_;refine Q.bindPO hh14 fun x23 hx_x23=>?_;refine Q.bindPO (Z118_eq _ _) fun x26 hx_x26=>?_;refine Q.wrapOO fun Kj20 hKj20=>?_;have hj20:∀(y21_id19_3:Z0),Z14_j20 s91_15 (Z14_l14 a0 a1 n14) y21_id19_3=Kj20 y21_id19_3:=by
    intro y21_id19_3;refine Qe (hKj20 _) ?_;unfold Z14_j20;all_goals exact ih14 _ _ ⟨by omega,by omega⟩
   refine Q.condO ?_ ?_
   ·refine Q.bindPO (Z23_eq _) fun x29 hx_x29=>?_;refine Q.bindO (Z16_eq _ _ _ _ _ _) fun x30=>?_;all_goals exact hj20 _
   all_goals exact hj20 _
  rw [dL (by omega),Z14_q14];refine QF hlt ?_;exact hend n14 s91_15 y16_id19_3
def Z14_q (a0:TDoc) (a1:TDoc):Option (Sl Z5):=Option.bind (Z14_q56 a1 a0.FDefs.l (Z0.mk ([]:Bs) (Sl.nil:Sl Z5))) fun y58_id19_3=>on (y58_id19_3) fun y6_id19_3=>Option.bind (Z14_q33 a1 a0.FDefs.l y6_id19_3) fun y35_id19_3=>on (y35_id19_3) fun y8_id19_3=>Option.bind (Z14_q14 a0 a1.FDefs.l y8_id19_3) fun y16_id19_3=>on (y16_id19_3) fun y10_id19_3=>some y10_id19_3.Fout
theorem Z14_eq (a0:TDoc) (a1:TDoc):Z14 a0 a1=Z14_q a0 a1:=by
 unfold Z14 Z14_q;refine Qs ?_;refine Q.wrapOO fun Kb56 hKb56=>?_;refine Z14_l56_qe  Kb56 ?_ _ _ _ ⟨Nat.succ_pos _,by omega⟩;intro n56 s23_57 y58_id19_3;refine Qe (hKb56 _) ?_;refine Q.wrapPO fun Kj5 hKj5=>?_;have hj5:∀(y6_id19_3:Z0),Z14_j5 a0 a1 y6_id19_3=Kj5 y6_id19_3:=by
  intro y6_id19_3;refine Qe (hKj5 _) ?_;unfold Z14_j5;refine Q.wrapOO fun Kb33 hKb33=>?_;refine Z14_l33_qe  Kb33 ?_ _ _ _ ⟨Nat.succ_pos _,by omega⟩;intro n33 s50_34 y35_id19_3;refine Qe (hKb33 _) ?_;refine Q.wrapPO fun Kj7 hKj7=>?_;have hj7:∀(y8_id19_3:Z0),Z14_j7 a0 a1 y8_id19_3=Kj7 y8_id19_3:=by
   intro y8_id19_3;refine Qe (hKj7 _) ?_;unfold Z14_j7;refine Q.wrapOO fun Kb14 hKb14=>?_;refine Z14_l14_qe  Kb14 ?_ _ _ _ ⟨Nat.succ_pos _,by omega⟩;intro n14 s91_15 y16_id19_3;refine Qe (hKb14 _) ?_;refine Q.wrapPO fun Kj9 hKj9=>?_;have hj9:∀(y10_id19_3:Z0),Z14_j9  y10_id19_3=Kj9 y10_id19_3:=by
    intro y10_id19_3;refine Qe (hKj9 _) ?_;unfold Z14_j9;all_goals rfl
   all_goals exact hj9 _
  all_goals exact hj7 _
 all_goals exact hj5 _
def Z29_q (a0:TDoc) (a1:TDoc) (a2:(Sl Z11)):Option (Sl Z13):=Z29 a0 a1 a2
theorem Z29_eq (a0:TDoc) (a1:TDoc) (a2:(Sl Z11)):Z29 a0 a1 a2=Z29_q a0 a1 a2:=rfl
def Z33_q (a0:TDoc) (a1:TDoc):Option Bool:=(Z35_q a0 a1 (Sl.nil:Sl Z11)).bind fun x4=>bif (!x4) then((Z34).bind fun x7=>some x7) else((Z29_q a0 a1 (Sl.nil:Sl Z11)).bind fun x9=>on (Z30_q x9) fun x10=>guardO (x10) (Z29_q a0 a0 (Sl.nil:Sl Z11)) (Sl.nil:Sl Z13) fun x11=>guardO ((x10&&(decide (((x11.l.length:Nat):Int)=(0:Int))))) (Z34) false fun x12=>some ((x10&&(decide (((x11.l.length:Nat):Int)=(0:Int))))&&x12))
theorem Z33_eq (a0:TDoc) (a1:TDoc):Z33 a0 a1=Z33_q a0 a1:=by
 unfold Z33 Z33_q;refine Qs ?_;refine Q.bindO (Z35_eq _ _ _) fun x4=>?_;refine Q.condO ?_ ?_
 ·refine Q.bindO rfl fun x7=>?_;all_goals rfl
 refine Q.bindO (Z29_eq _ _ _) fun x9=>?_;refine Q.bindPO (Z30_eq _) fun x10 hx_x10=>?_;refine Q.guardOO (Z29_eq _ _ _) fun x11=>?_;refine Q.guardOO rfl fun x12=>?_;all_goals rfl
end Go.Proofs

namespace Go.Proofs
theorem fm_append {α β:Type}(f g:α->List β):∀l:List α,(l.flatMap fun y=>f y++g y).Perm (l.flatMap f++l.flatMap g)
 | []=>.nil
 | a::l=>by
  simp only [List.flatMap_cons,List.append_assoc];refine List.Perm.append_left _ ?_;refine((fm_append f g l).append_left _).trans ?_;rw [<- List.append_assoc,<- List.append_assoc];exact List.perm_append_comm.append_right _
theorem fm_swap {α β γ:Type}(f:α->β->List γ) (B:List β):∀A:List α,(A.flatMap fun x=>B.flatMap (f x)).Perm (B.flatMap fun y=>A.flatMap fun x=>f x y)
 | []=>by simp
 | a::A=>by
  simp only [List.flatMap_cons];exact((fm_swap f B A).append_left _).trans (fm_append _ _ B).symm
theorem fm_perm {α β:Type}(f g:α->List β):∀l:List α,(∀x∈l,(f x).Perm (g x))->(l.flatMap f).Perm (l.flatMap g)
 | [],_=>.nil
 | a::l,h=>by
  simp only [List.flatMap_cons];exact(h a (by simp)).append (fm_perm f g l fun x hx=>h x (by simp [hx]))
section
variable {α κ γ:Type} [BEq κ] [LawfulBEq κ]
def prs (key:α->κ) (w:α->α->List γ) (A B:List α):List γ:=A.flatMap fun x=>match B.find? (fun t=>key t==key x) with|some y=>w x y|none=>[]
def lon (key:α->κ) (g:α->List γ) (A B:List α):List γ:=A.flatMap fun x=>match B.find? (fun t=>key t==key x) with|some _=>[]|none=>g x
def dif (key:α->κ) (w:α->α->List γ) (g:α->List γ) (A B:List α):List γ:=A.flatMap fun x=>match B.find? (fun t=>key t==key x) with|some y=>w x y|none=>g x
def Dst (key:α->κ) (A:List α):Prop:=A.Pairwise fun x y=>key x≠key y
theorem fm_find (key:α->κ) (k:κ) (w:α->List γ):∀B:List α,Dst key B->(B.flatMap fun y=>bif key y==k then w y else [])=(match B.find? (fun t=>key t==k) with|some y=>w y|none=>[])
 | [],_=>rfl
 | b::B,h=>by
  obtain⟨h1,h2⟩:=List.pairwise_cons.mp h;rw [List.flatMap_cons,fm_find key k w B h2,List.find?_cons];cases hb:key b==k
  ·rfl
  ·have:B.find? (fun t=>key t==k)=none:=by
    rw [List.find?_eq_none];intro x hx e;exact h1 x hx ((eq_of_beq hb).trans (eq_of_beq e).symm)
   rw [this]; simp
theorem prs_perm {key:α->κ}{w w':α->α->List γ}{A B:List α}(hA:Dst key A) (hB:Dst key B) (h:∀x∈A,∀y∈B,key y=key x->(w x y).Perm (w' y x)):(prs key w A B).Perm (prs key w' B A):=by
 have e1:prs key w A B=A.flatMap fun x=>B.flatMap fun y=>bif key y==key x then w x y else []:=by
  unfold prs; congr 1; funext x; exact(fm_find key (key x) (w x) B hB).symm
 have e2:prs key w' B A=B.flatMap fun y=>A.flatMap fun x=>bif key x==key y then w' y x else []:=by
  unfold prs; congr 1; funext y; exact(fm_find key (key y) (w' y) A hA).symm
 rw [e1,e2];refine(fm_swap _ B A).trans (fm_perm _ _ B fun y hy=>fm_perm _ _ A fun x hx=>?_);cases hk:key y==key x
 ·rw [show (key x==key y)=false from by rw [beq_eq_false_iff_ne] at hk ⊢; exact fun e=>hk e.symm]; exact .nil
 ·rw [show (key x==key y)=true from beq_iff_eq.mpr (eq_of_beq hk).symm]; exact h x hx y hy (eq_of_beq hk)
omit [LawfulBEq κ] in
theorem dif_split (key:α->κ) (w:α->α->List γ) (g:α->List γ) (A B:List α):(dif key w g A B).Perm (prs key w A B++lon key g A B):=by
 refine .trans (.of_eq ?_) (fm_append _ _ A);unfold dif; congr 1; funext x;cases B.find? (fun t=>key t==key x)<;>simp
end
section
variable {α κ γ:Type} [BEq κ] [LawfulBEq κ]
omit [LawfulBEq κ] in
theorem dif_len1 {key:α->κ}{w:α->α->List γ}{g:α->List γ}{f e:α->Nat}{B:List α}:∀{A:List α},(∀x∈A,∀y∈B,(w x y).length<=f x+e y)->(∀x∈A,(g x).length<=f x) ->
  (dif key w g A B).length<=(A.map f).sum+(prs key (fun _ y=>List.replicate (e y) ()) A B).length
 | [],_,_=>by simp [dif]
 | x::A,hw,hg=>by
  have ih:=dif_len1 (key:=key) (w:=w) (g:=g) (f:=f) (e:=e) (B:=B) (A:=A) (fun x hx=>hw x (.tail _ hx)) (fun x hx=>hg x (.tail _ hx));unfold dif prs at ih ⊢;simp only [] at ih;simp only [List.flatMap_cons,List.length_append,List.map_cons,List.sum_cons];have h1:=hg x (.head _);cases hb:B.find? (fun t=>key t==key x) with
  | none=>simp only [List.length_nil]; omega
  | some y =>
   have h2:=hw x (.head _) y (List.mem_of_find?_eq_some hb);simp only [List.length_replicate]; omega
omit [LawfulBEq κ] in
theorem lon_len {key:α->κ}{n:α->List γ}{e:α->Nat}{A:List α}:∀{B:List α},(∀y∈B,(n y).length<=e y)->(lon key n B A).length+(prs key (fun y _=>List.replicate (e y) ()) B A).length<=(B.map e).sum
 | [],_=>by simp [lon,prs]
 | y::B,hn=>by
  have ih:=lon_len (key:=key) (n:=n) (e:=e) (A:=A) (B:=B) (fun x hx=>hn x (.tail _ hx));unfold lon prs at ih ⊢;simp only [] at ih;simp only [List.flatMap_cons,List.length_append,List.map_cons,List.sum_cons];have h1:=hn y (.head _);cases hb:A.find? (fun t=>key t==key y) with
  | none=>simp only [List.length_nil]; omega
  | some x=>simp only [List.length_replicate,List.length_nil]; omega
theorem dif_len {key:α->κ}{w:α->α->List γ}{g n:α->List γ}{f e:α->Nat}{A B:List α}(hA:Dst key A) (hB:Dst key B) (hw:∀x∈A,∀y∈B,(w x y).length<=f x+e y) (hg:∀x∈A,(g x).length<=f x) (hn:∀y∈B,(n y).length<=e y) :
  (dif key w g A B++lon key n B A).length<=(A.map f).sum+(B.map e).sum:=by
 have h1:=dif_len1 (key:=key) hw hg;have h2:=lon_len (key:=key) (A:=A) hn;have h3:=(prs_perm (key:=key) (w:=fun _ y=>List.replicate (e y) ()) (w':=fun y _=>List.replicate (e y) ()) hA hB (fun _ _ _ _ _=>.rfl)).length_eq;rw [List.length_append]; omega
end
end Go.Proofs
