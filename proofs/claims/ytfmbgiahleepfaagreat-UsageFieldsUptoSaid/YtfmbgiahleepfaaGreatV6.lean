import Derived.Test.YtfmbgiahleepfaaGreatV5
set_option maxRecDepth 100000
set_option maxHeartbeats 2000000
set_option linter.unusedVariables false
set_option linter.unusedSimpArgs false
namespace Go.Proofs
open Go Go.Ab
def Z73_q36 :List Z4->Int->Option (Int)
 | [],s3_37=>some s3_37
 | h36::r36,s3_37=>on (h36) fun x44=>on (h36) fun x45=>(addC ((x44.FArgs.l.length:Nat):Int) ((x45.FDirs.l.length:Nat):Int)).bind fun x46=>(addC s3_37 x46).bind fun x47=>Z73_q36  (r36) x47
theorem Z73_l36_qe {s4_14:Nat}{x22:TDef}{k_next_12:Int->Nat->Option Bool}  (Kb36:(Int)->Option Bool) (hend:∀(n36:Nat) (s3_37:Int) (s6_38:Nat),Z73_j19 s4_14 k_next_12 s3_37=Kb36 s3_37):∀(n36:Nat) (s3_37:Int) (s6_38:Nat),(0<n36/\x22.FFields.l.length<s6_38+n36)->Z73_l36 s4_14 x22 k_next_12 n36 s3_37 s6_38=Option.bind (Z73_q36  (x22.FFields.l.drop s6_38) s3_37) Kb36:=by
 intro n36;induction n36 with
 | zero=>intro s3_37 s6_38 hn; exact absurd hn.1 (by omega)
 | succ n36 ih36 =>
  intro s3_37 s6_38 hn;rw [Z73_l36];by_cases hlt:s6_38<x22.FFields.l.length
  ·obtain⟨h36,hh36⟩:=Qa hlt;rw [Q.drop_of hh36,Z73_q36];refine QT hlt ?_;refine Q.bindPO hh36 fun x44 hx_x44=>?_;refine Q.bindPO hh36 fun x45 hx_x45=>?_;refine Q.bindO rfl fun x46=>?_;refine Q.bindO rfl fun x47=>?_;all_goals exact ih36 _ _ ⟨by omega,by omega⟩
  rw [dL (by omega),Z73_q36];refine QF hlt ?_;exact hend n36 s3_37 s6_38
def Z73_q12 :List TDef->Int->Option (Int)
 | [],s3_13=>some s3_13
 | h12::r12,s3_13=>on (h12) fun x22=>(addC (1:Int) ((x22.FFields.l.length:Nat):Int)).bind fun x25=>(addC x25 ((x22.FMembers.l.length:Nat):Int)).bind fun x27=>(addC x27 ((x22.FInputs.l.length:Nat):Int)).bind fun x29=>(addC x29 ((x22.FDirs.l.length:Nat):Int)).bind fun x31=>(addC x31 ((x22.FImplements.l.length:Nat):Int)).bind fun x33=>(addC s3_13 x33).bind fun x34=>Option.bind (Z73_q36  x22.FFields.l x34) fun s3_37=>on (s3_37) fun s3_20=>Z73_q12  (r12) s3_20
theorem Z73_l12_qe {a0:TDoc}  (Kb12:(Int)->Option Bool) (hend:∀(n12:Nat) (s3_13:Int) (s4_14:Nat),Z73_j8   s3_13=Kb12 s3_13):∀(n12:Nat) (s3_13:Int) (s4_14:Nat),(0<n12/\a0.FDefs.l.length<s4_14+n12)->Z73_l12 a0 n12 s3_13 s4_14=Option.bind (Z73_q12  (a0.FDefs.l.drop s4_14) s3_13) Kb12:=by
 intro n12;induction n12 with
 | zero=>intro s3_13 s4_14 hn; exact absurd hn.1 (by omega)
 | succ n12 ih12 =>
  intro s3_13 s4_14 hn;rw [Z73_l12];by_cases hlt:s4_14<a0.FDefs.l.length
  ·obtain⟨h12,hh12⟩:=Qa hlt;rw [Q.drop_of hh12,Z73_q12];refine QT hlt ?_;refine Q.bindPO hh12 fun x22 hx_x22=>?_;refine Q.bindO rfl fun x25=>?_;refine Q.bindO rfl fun x27=>?_;refine Q.bindO rfl fun x29=>?_;refine Q.bindO rfl fun x31=>?_;refine Q.bindO rfl fun x33=>?_;refine Q.bindO rfl fun x34=>?_;refine Q.wrapOO fun Kb36 hKb36=>?_;refine Z73_l36_qe  Kb36 ?_ _ _ _ ⟨Nat.succ_pos _,by omega⟩;intro n36 s3_37 s6_38
   refine Qe (hKb36 _) ?_;refine Q.wrapPO fun Kj19 hKj19=>?_;have hj19:∀(s3_20:Int),Z73_j19 s4_14 (Z73_l12 a0 n12) s3_20=Kj19 s3_20:=by
    intro s3_20;refine Qe (hKj19 _) ?_;unfold Z73_j19;all_goals exact ih12 _ _ ⟨by omega,by omega⟩
   all_goals exact hj19 _
  rw [dL (by omega),Z73_q12];refine QF hlt ?_;exact hend n12 s3_13 s4_14
def Z73_q (a0:TDoc):Option Bool:=bif (decide ((70:Int)<((a0.FDefs.l.length:Nat):Int))) then(some true) else(Option.bind (Z73_q12  a0.FDefs.l (0:Int)) fun s3_13=>on (s3_13) fun s3_9=>some (decide ((1000:Int)<s3_9)))
theorem Z73_eq (a0:TDoc):Z73 a0=Z73_q a0:=by
 unfold Z73 Z73_q;refine Qs ?_;refine Q.condO ?_ ?_
 ·all_goals rfl
 refine Q.wrapOO fun Kb12 hKb12=>?_;refine Z73_l12_qe  Kb12 ?_ _ _ _ ⟨Nat.succ_pos _,by omega⟩;intro n12 s3_13 s4_14;refine Qe (hKb12 _) ?_;refine Q.wrapPO fun Kj8 hKj8=>?_;have hj8:∀(s3_9:Int),Z73_j8  s3_9=Kj8 s3_9:=by
  intro s3_9;refine Qe (hKj8 _) ?_;unfold Z73_j8;all_goals rfl
 all_goals exact hj8 _
def Z51_q7 (k_rec_70:Z9->Option Int):List Z9->Int->Option (Int)
 | [],s3_8=>some s3_8
 | h7::r7,s3_8=>on (h7) fun x15=>(k_rec_70 x15).bind fun x16=>(addC s3_8 x16).bind fun x17=>Z51_q7 k_rec_70 (r7) x17
theorem Z51_l7_qe {a0:Z9}{k_rec_70:Z9->Option Int}  (Kb7:(Int)->Option Int) (hend:∀(n7:Nat) (s3_8:Int) (s4_9:Nat),Z51_j3   s3_8=Kb7 s3_8):∀(n7:Nat) (s3_8:Int) (s4_9:Nat),(0<n7/\a0.FItems.l.length<s4_9+n7)->Z51_l7 a0 k_rec_70 n7 s3_8 s4_9=Option.bind (Z51_q7 k_rec_70 (a0.FItems.l.drop s4_9) s3_8) Kb7:=by
 intro n7;induction n7 with
 | zero=>intro s3_8 s4_9 hn; exact absurd hn.1 (by omega)
 | succ n7 ih7 =>
  intro s3_8 s4_9 hn;rw [Z51_l7];by_cases hlt:s4_9<a0.FItems.l.length
  ·obtain⟨h7,hh7⟩:=Qa hlt;rw [Q.drop_of hh7,Z51_q7];refine QT hlt ?_;refine Q.bindPO hh7 fun x15 hx_x15=>?_;refine Q.bindO rfl fun x16=>?_;refine Q.bindO rfl fun x17=>?_;all_goals exact ih7 _ _ ⟨by omega,by omega⟩
  rw [dL (by omega),Z51_q7];refine QF hlt ?_;exact hend n7 s3_8 s4_9
def Z51_qn:Nat->Z9->Option Int
 | 0,_=>none
 | n+1,a0=>Option.bind (Z51_q7 (Z51_qn n) a0.FItems.l (1:Int)) fun s3_8=>on (s3_8) fun s3_4=>some s3_4
theorem Z51_qall:∀n:Nat,Z51_n n=Z51_qn n:=by
 intro n;induction n with
 | zero=>exact(by funext a0; first|rfl|(rw [Z51_n,Z51_qn]))
 | succ n ih =>
  funext a0
  refine Qs ?_;rw [Z51_n,Z51_qn];try rw [ih]
  refine Q.wrapOO fun Kb7 hKb7=>?_;refine Z51_l7_qe  Kb7 ?_ _ _ _ ⟨Nat.succ_pos _,by omega⟩;intro n7 s3_8 s4_9;refine Qe (hKb7 _) ?_;refine Q.wrapPO fun Kj3 hKj3=>?_;have hj3:∀(s3_4:Int),Z51_j3  s3_4=Kj3 s3_4:=by
   intro s3_4;refine Qe (hKj3 _) ?_;unfold Z51_j3;all_goals rfl
  all_goals exact hj3 _
def Z51_q (a0:Z9):Option Int:=Z51_qn F0 a0
theorem Z51_eq (a0:Z9):Z51 a0=Z51_q a0:=by
 unfold Z51 Z51_q; rw [(Z51_qall F0)]
def Z72_q29 (a1:Int) (h7:TSel):List TArg->Int->Option (Int)
 | [],s5_30=>some s5_30
 | h29::r29,s5_30=>bif (decide (s5_30<=a1)) then(on (h7) fun x38=>on (h29) fun x39=>(Z51_q x39.FValue).bind fun x40=>(addC s5_30 x40).bind fun x41=>Z72_q29 a1 h7 (r29) x41) else(some s5_30)
theorem Z72_l29_qe {a0:(Sl TSel)}{a1:Int}{s6_9:Nat}{k_next_7:Int->Nat->Option Int}{k_rec_38:(Sl TSel)->Int->Option Int}{h7:TSel}(hh7:a0.l[s6_9]?=some h7) (Kb29:(Int)->Option Int) (hend:∀(n29:Nat) (s5_30:Int) (s7_31:Nat),Z72_j22 a0 a1 s6_9 k_next_7 k_rec_38 s5_30=Kb29 s5_30):∀(n29:Nat) (s5_30:Int) (s7_31:Nat),(0<n29/\h7.FArgs.l.length<s7_31+n29)->Z72_l29 a0 a1 s6_9 k_next_7 k_rec_38 n29 s5_30 s7_31=Option.bind (Z72_q29 a1 h7 (h7.FArgs.l.drop s7_31) s5_30) Kb29:=by
 intro n29;induction n29 with
 | zero=>intro s5_30 s7_31 hn; exact absurd hn.1 (by omega)
 | succ n29 ih29 =>
  intro s5_30 s7_31 hn;rw [Z72_l29];refine Q.preB hh7 fun x34 hx_x34=>?_;subst hx_x34;by_cases hlt:s7_31<x34.FArgs.l.length
  ·obtain⟨h29,hh29⟩:=Qa hlt;rw [Q.drop_of hh29,Z72_q29];refine Q.condAT (Q.ltT hlt) ?_;refine Q.condO ?_ ?_
   ·refine Q.bindPO hh7 fun x38 hx_x38=>?_;refine Q.bindPO (by first|exact hh29|(simp only [hx_x38]; exact hh29)|(simp only [hx_x38] at hh29 ⊢; exact hh29)) fun x39 hx_x39=>?_;refine Q.bindO (Z51_eq _) fun x40=>?_;refine Q.bindO rfl fun x41=>?_;all_goals exact ih29 _ _ ⟨by omega,by omega⟩
   all_goals exact hend n29 s5_30 s7_31
  rw [dL (by omega),Z72_q29];refine Q.condAF (Q.ltF hlt) ?_;exact hend n29 s5_30 s7_31
def Z72_q7 (a1:Int) (k_rec_38:(Sl TSel)->Int->Option Int):List TSel->Int->Option (Int)
 | [],s5_8=>some s5_8
 | h7::r7,s5_8=>bif (decide (s5_8<=a1)) then((addC s5_8 (1:Int)).bind fun x17=>on (h7) fun x18=>(addC x17 ((x18.FArgs.l.length:Nat):Int)).bind fun x19=>on (h7) fun x20=>(addC x19 ((x20.FDirs.l.length:Nat):Int)).bind fun x21=>Option.bind (Z72_q29 a1 h7 h7.FArgs.l x21) fun s5_30=>on (s5_30) fun s5_23=>on (h7) fun x24=>(subC a1 s5_23).bind fun x25=>(k_rec_38 x24.FSels x25).bind fun x26=>(addC s5_23 x26).bind fun x27=>on (x27) fun s5_15=>Z72_q7 a1 k_rec_38 (r7) s5_15) else(some s5_8)
theorem Z72_l7_qe {a0:(Sl TSel)}{a1:Int}{k_rec_38:(Sl TSel)->Int->Option Int}  (Kb7:(Int)->Option Int) (hend:∀(n7:Nat) (s5_8:Int) (s6_9:Nat),Z72_j3   s5_8=Kb7 s5_8):∀(n7:Nat) (s5_8:Int) (s6_9:Nat),(0<n7/\a0.l.length<s6_9+n7)->Z72_l7 a0 a1 k_rec_38 n7 s5_8 s6_9=Option.bind (Z72_q7 a1 k_rec_38 (a0.l.drop s6_9) s5_8) Kb7:=by
 intro n7;induction n7 with
 | zero=>intro s5_8 s6_9 hn; exact absurd hn.1 (by omega)
 | succ n7 ih7 =>
  intro s5_8 s6_9 hn;rw [Z72_l7];by_cases hlt:s6_9<a0.l.length
  ·obtain⟨h7,hh7⟩:=Qa hlt;rw [Q.drop_of hh7,Z72_q7];refine Q.condAT (Q.ltT hlt) ?_;refine Q.condO ?_ ?_
   ·refine Q.bindO rfl fun x17=>?_;refine Q.bindPO hh7 fun x18 hx_x18=>?_;refine Q.bindO rfl fun x19=>?_;refine Q.bindPO hh7 fun x20 hx_x20=>?_;refine Q.bindO rfl fun x21=>?_;refine Q.wrapOO fun Kb29 hKb29=>?_;refine Z72_l29_qe hh7 Kb29 ?_ _ _ _ ⟨by rw [hh7]; exact Nat.succ_pos _,by rw [hh7]; simp only [Option.elim]; omega⟩;intro n29 s5_30 s7_31;refine Qe (hKb29 _) ?_;refine Q.wrapPO fun Kj22 hKj22=>?_
    have hj22:∀(s5_23:Int),Z72_j22 a0 a1 s6_9 (Z72_l7 a0 a1 k_rec_38 n7) k_rec_38 s5_23=Kj22 s5_23:=by
     intro s5_23;refine Qe (hKj22 _) ?_;unfold Z72_j22;refine Q.bindPO hh7 fun x24 hx_x24=>?_;refine Q.bindO rfl fun x25=>?_;refine Q.bindO rfl fun x26=>?_;refine Q.bindO rfl fun x27=>?_;refine Q.wrapPO fun Kj14 hKj14=>?_;have hj14:∀(s5_15:Int),Z72_j14 s6_9 (Z72_l7 a0 a1 k_rec_38 n7) s5_15=Kj14 s5_15:=by
      intro s5_15;refine Qe (hKj14 _) ?_;unfold Z72_j14;all_goals exact ih7 _ _ ⟨by omega,by omega⟩
     all_goals exact hj14 _
    all_goals exact hj22 _
   all_goals exact hend n7 s5_8 s6_9
  rw [dL (by omega),Z72_q7];refine Q.condAF (Q.ltF hlt) ?_;exact hend n7 s5_8 s6_9
def Z72_qn:Nat->(Sl TSel)->Int->Option Int
 | 0,_,_=>none
 | n+1,a0,a1=>Option.bind (Z72_q7 a1 (Z72_qn n) a0.l (0:Int)) fun s5_8=>on (s5_8) fun s5_4=>some s5_4
theorem Z72_qall:∀n:Nat,Z72_n n=Z72_qn n:=by
 intro n;induction n with
 | zero=>exact(by funext a0 a1; first|rfl|(rw [Z72_n,Z72_qn]))
 | succ n ih =>
  funext a0 a1
  refine Qs ?_;rw [Z72_n,Z72_qn];try rw [ih]
  refine Q.wrapOO fun Kb7 hKb7=>?_;refine Z72_l7_qe  Kb7 ?_ _ _ _ ⟨Nat.succ_pos _,by omega⟩;intro n7 s5_8 s6_9;refine Qe (hKb7 _) ?_;refine Q.wrapPO fun Kj3 hKj3=>?_;have hj3:∀(s5_4:Int),Z72_j3  s5_4=Kj3 s5_4:=by
   intro s5_4;refine Qe (hKj3 _) ?_;unfold Z72_j3;all_goals rfl
  all_goals exact hj3 _
def Z72_q (a0:(Sl TSel)) (a1:Int):Option Int:=Z72_qn F0 a0 a1
theorem Z72_eq (a0:(Sl TSel)) (a1:Int):Z72 a0 a1=Z72_q a0 a1:=by
 unfold Z72 Z72_q; rw [(Z72_qall F0)]
def Z64_q24 :List TOp->Int->Option (Int)
 | [],s3_25=>some s3_25
 | h24::r24,s3_25=>bif (decide (s3_25<=(600:Int))) then(on (h24) fun x32=>(addC s3_25 ((x32.FVars.l.length:Nat):Int)).bind fun x33=>on (h24) fun x34=>(Z72_q x34.FSels (600:Int)).bind fun x35=>(addC x33 x35).bind fun x36=>Z64_q24  (r24) x36) else(some s3_25)
theorem Z64_l24_qe {a0:Z8}  (Kb24:(Int)->Option Bool) (hend:∀(n24:Nat) (s3_25:Int) (s4_26:Nat),Z64_j6 a0  s3_25=Kb24 s3_25):∀(n24:Nat) (s3_25:Int) (s4_26:Nat),(0<n24/\a0.FOps.l.length<s4_26+n24)->Z64_l24 a0 n24 s3_25 s4_26=Option.bind (Z64_q24  (a0.FOps.l.drop s4_26) s3_25) Kb24:=by
 intro n24;induction n24 with
 | zero=>intro s3_25 s4_26 hn; exact absurd hn.1 (by omega)
 | succ n24 ih24 =>
  intro s3_25 s4_26 hn;rw [Z64_l24];by_cases hlt:s4_26<a0.FOps.l.length
  ·obtain⟨h24,hh24⟩:=Qa hlt;rw [Q.drop_of hh24,Z64_q24];refine Q.condAT (Q.ltT hlt) ?_;refine Q.condO ?_ ?_
   ·refine Q.bindPO hh24 fun x32 hx_x32=>?_;refine Q.bindO rfl fun x33=>?_;refine Q.bindPO hh24 fun x34 hx_x34=>?_;refine Q.bindO (Z72_eq _ _) fun x35=>?_;refine Q.bindO rfl fun x36=>?_;all_goals exact ih24 _ _ ⟨by omega,by omega⟩
   all_goals exact hend n24 s3_25 s4_26
  rw [dL (by omega),Z64_q24];refine Q.condAF (Q.ltF hlt) ?_;exact hend n24 s3_25 s4_26
def Z64_q12 :List Z5->Int->Option (Int)
 | [],s3_13=>some s3_13
 | h12::r12,s3_13=>bif (decide (s3_13<=(600:Int))) then(on (h12) fun x20=>(Z72_q x20.FSels (600:Int)).bind fun x21=>(addC s3_13 x21).bind fun x22=>Z64_q12  (r12) x22) else(some s3_13)
theorem Z64_l12_qe {a0:Z8}  (Kb12:(Int)->Option Bool) (hend:∀(n12:Nat) (s3_13:Int) (s5_14:Nat),Z64_j8   s3_13=Kb12 s3_13):∀(n12:Nat) (s3_13:Int) (s5_14:Nat),(0<n12/\a0.FFrags.l.length<s5_14+n12)->Z64_l12 a0 n12 s3_13 s5_14=Option.bind (Z64_q12  (a0.FFrags.l.drop s5_14) s3_13) Kb12:=by
 intro n12;induction n12 with
 | zero=>intro s3_13 s5_14 hn; exact absurd hn.1 (by omega)
 | succ n12 ih12 =>
  intro s3_13 s5_14 hn;rw [Z64_l12];by_cases hlt:s5_14<a0.FFrags.l.length
  ·obtain⟨h12,hh12⟩:=Qa hlt;rw [Q.drop_of hh12,Z64_q12];refine Q.condAT (Q.ltT hlt) ?_;refine Q.condO ?_ ?_
   ·refine Q.bindPO hh12 fun x20 hx_x20=>?_;refine Q.bindO (Z72_eq _ _) fun x21=>?_;refine Q.bindO rfl fun x22=>?_;all_goals exact ih12 _ _ ⟨by omega,by omega⟩
   all_goals exact hend n12 s3_13 s5_14
  rw [dL (by omega),Z64_q12];refine Q.condAF (Q.ltF hlt) ?_;exact hend n12 s3_13 s5_14
def Z64_q (a0:Z8):Option Bool:=(addC ((a0.FOps.l.length:Nat):Int) ((a0.FFrags.l.length:Nat):Int)).bind fun x5=>Option.bind (Z64_q24  a0.FOps.l x5) fun s3_25=>on (s3_25) fun s3_7=>Option.bind (Z64_q12  a0.FFrags.l s3_7) fun s3_13=>on (s3_13) fun s3_9=>some (decide ((600:Int)<s3_9))
theorem Z64_eq (a0:Z8):Z64 a0=Z64_q a0:=by
 unfold Z64 Z64_q;refine Qs ?_;refine Q.bindO rfl fun x5=>?_;refine Q.wrapOO fun Kb24 hKb24=>?_;refine Z64_l24_qe  Kb24 ?_ _ _ _ ⟨Nat.succ_pos _,by omega⟩;intro n24 s3_25 s4_26;refine Qe (hKb24 _) ?_;refine Q.wrapPO fun Kj6 hKj6=>?_;have hj6:∀(s3_7:Int),Z64_j6 a0 s3_7=Kj6 s3_7:=by
  intro s3_7;refine Qe (hKj6 _) ?_;unfold Z64_j6;refine Q.wrapOO fun Kb12 hKb12=>?_;refine Z64_l12_qe  Kb12 ?_ _ _ _ ⟨Nat.succ_pos _,by omega⟩;intro n12 s3_13 s5_14;refine Qe (hKb12 _) ?_;refine Q.wrapPO fun Kj8 hKj8=>?_;have hj8:∀(s3_9:Int),Z64_j8  s3_9=Kj8 s3_9:=by
   intro s3_9;refine Qe (hKj8 _) ?_;unfold Z64_j8;all_goals rfl
  all_goals exact hj8 _
 all_goals exact hj6 _
def Z48_q (a0:Int):Bool:=((((decide ((65:Int)<=a0))&&(decide (a0<=(90:Int))))||((decide ((97:Int)<=a0))&&(decide (a0<=(122:Int)))))||(decide (a0=(95:Int))))
theorem Z48_eq (a0:Int):Z48 a0=some (Z48_q a0):=by
 unfold Z48 Z48_q;all_goals rfl
def Z47_q (a0:Int):Bool:=((decide ((48:Int)<=a0))&&(decide (a0<=(57:Int))))
theorem Z47_eq (a0:Int):Z47 a0=some (Z47_q a0):=by
 unfold Z47 Z47_q;all_goals rfl
def Z46_q10 :List UInt8->Nat->Unit ⊕ Bool
 | [],s3_11=>Sum.inl ()
 | h10::r10,s3_11=>on (h10) fun x18=>on (Z48_q ((x18.toNat:Nat):Int)) fun x19=>on (bif ((!x19)&&!(decide (((s3_11:Nat):Int)=(0:Int)))) then h10 else(0:UInt8)) fun x20=>on (bif ((!x19)&&!(decide (((s3_11:Nat):Int)=(0:Int)))) then Z47_q ((x20.toNat:Nat):Int) else false) fun x21=>bif ((!x19)&&((decide (((s3_11:Nat):Int)=(0:Int)))||(!x21))) then(Sum.inr false) else(Z46_q10  (r10) (s3_11+1) )
theorem Z46_l10_qe {a0:Bs}  (Kb10:(Unit ⊕ Bool)->Option Bool) (hend:∀(n10:Nat) (s3_11:Nat),Z46_j7   =Kb10 (Sum.inl ())) (hret:∀e:Bool,some e=Kb10 (Sum.inr e)):∀(n10:Nat) (s3_11:Nat),(0<n10/\a0.length<s3_11+n10)->Z46_l10 a0 n10 s3_11=Kb10 (Z46_q10  (a0.drop s3_11) s3_11 ):=by
 intro n10;induction n10 with
 | zero=>intro s3_11 hn; exact absurd hn.1 (by omega)
 | succ n10 ih10 =>
  intro s3_11 hn;rw [Z46_l10];by_cases hlt:s3_11<a0.length
  ·obtain⟨h10,hh10⟩:=Qa hlt;rw [Q.drop_of hh10,Z46_q10];refine QT hlt ?_;refine Q.bindP hh10 fun x18 hx_x18=>?_;refine Q.bindP (Z48_eq _) fun x19 hx_x19=>?_;refine Q.guardP hh10 fun x20 hx_x20=>?_;refine Q.guardP (Z47_eq _) fun x21 hx_x21=>?_;refine Q.condP ?_ ?_
   ·all_goals exact hret _
   all_goals exact ih10 _ ⟨by omega,by omega⟩
  rw [dL (by omega),Z46_q10];refine QF hlt ?_;exact hend n10 s3_11
def Z46_q (a0:Bs):Bool:=bif ((decide (((a0.length:Nat):Int)<(1:Int)))||(decide ((64:Int)<((a0.length:Nat):Int)))) then(false) else(on (Z46_q10  a0 0 ) fun o10=>match o10 with|Sum.inl _=>(on (()) fun _=>true)|Sum.inr e10=>(e10))
theorem Z46_eq (a0:Bs):Z46 a0=some (Z46_q a0):=by
 unfold Z46 Z46_q;refine Q.condP ?_ ?_
 ·all_goals rfl
 refine Q.wrapPP fun Kb10 hKb10=>?_;refine Z46_l10_qe  Kb10 ?_ ?_ _ _ ⟨Nat.succ_pos _,by omega⟩
 ·intro n10 s3_11;refine Qe (hKb10 _) ?_;try dsimp only
  refine Q.wrapPP fun Kj7 hKj7=>?_;have hj7:Z46_j7  =Kj7 ():=by
   refine Qe (hKj7 _) ?_;unfold Z46_j7;all_goals rfl
  all_goals exact hj7
 intro e10;refine Qe (hKb10 _) ?_;try dsimp only
 all_goals rfl
def Z49_q8 (k_rec_102:Z9->Option Int):List Z9->Int->Option (Int)
 | [],s3_9=>some s3_9
 | h8::r8,s3_9=>on (h8) fun x16=>(k_rec_102 x16).bind fun x17=>Z49_q8 k_rec_102 (r8) (if x17>s3_9 then x17 else s3_9)
theorem Z49_l8_qe {a0:Z9}{k_rec_102:Z9->Option Int}  (Kb8:(Int)->Option Int) (hend:∀(n8:Nat) (s3_9:Int) (s4_10:Nat),Z49_j3   s3_9=Kb8 s3_9):∀(n8:Nat) (s3_9:Int) (s4_10:Nat),(0<n8/\a0.FItems.l.length<s4_10+n8)->Z49_l8 a0 k_rec_102 n8 s3_9 s4_10=Option.bind (Z49_q8 k_rec_102 (a0.FItems.l.drop s4_10) s3_9) Kb8:=by
 intro n8;induction n8 with
 | zero=>intro s3_9 s4_10 hn; exact absurd hn.1 (by omega)
 | succ n8 ih8 =>
  intro s3_9 s4_10 hn;rw [Z49_l8];by_cases hlt:s4_10<a0.FItems.l.length
  ·obtain⟨h8,hh8⟩:=Qa hlt;rw [Q.drop_of hh8,Z49_q8];refine QT hlt ?_;refine Q.bindPO hh8 fun x16 hx_x16=>?_;refine Q.bindO rfl fun x17=>?_;all_goals exact ih8 _ _ ⟨by omega,by omega⟩
  rw [dL (by omega),Z49_q8];refine QF hlt ?_;exact hend n8 s3_9 s4_10
def Z49_qn:Nat->Z9->Option Int
 | 0,_=>none
 | n+1,a0=>Option.bind (Z49_q8 (Z49_qn n) a0.FItems.l (0:Int)) fun s3_9=>on (s3_9) fun s3_4=>(addC s3_4 (1:Int)).bind fun x6=>some x6
theorem Z49_qall:∀n:Nat,Z49_n n=Z49_qn n:=by
 intro n;induction n with
 | zero=>exact(by funext a0; first|rfl|(rw [Z49_n,Z49_qn]))
 | succ n ih =>
  funext a0
  refine Qs ?_;rw [Z49_n,Z49_qn];try rw [ih]
  refine Q.wrapOO fun Kb8 hKb8=>?_;refine Z49_l8_qe  Kb8 ?_ _ _ _ ⟨Nat.succ_pos _,by omega⟩;intro n8 s3_9 s4_10;refine Qe (hKb8 _) ?_;refine Q.wrapPO fun Kj3 hKj3=>?_;have hj3:∀(s3_4:Int),Z49_j3  s3_4=Kj3 s3_4:=by
   intro s3_4;refine Qe (hKj3 _) ?_;unfold Z49_j3;refine Q.bindO rfl fun x6=>?_;all_goals rfl
  all_goals exact hj3 _
def Z49_q (a0:Z9):Option Int:=Z49_qn F0 a0
theorem Z49_eq (a0:Z9):Z49 a0=Z49_q a0:=by
 unfold Z49 Z49_q; rw [(Z49_qall F0)]
def Z53_q13 (a0:(Sl Bs)) (h5:Bs):Nat->Nat->Option (Unit ⊕ Bool)
 | 0,s4_14=>some (Sum.inl ())
 | r13+1,s4_14=>on (h5) fun x20=>(a0.l[s4_14]?).bind fun x21=>bif ((x20==x21)) then(some (Sum.inr true)) else(Z53_q13 a0 h5 (r13) (s4_14+1) )
theorem Z53_l13_qe {a0:(Sl Bs)}{s3_6:Nat}{k_next_5:Nat->Option Bool}{h5:Bs}(hh5:a0.l[s3_6]?=some h5) (Kb13:(Unit ⊕ Bool)->Option Bool) (hend:∀(n13:Nat) (s4_14:Nat),Z53_j11 s3_6 k_next_5 =Kb13 (Sum.inl ())) (hret:∀e:Bool,some e=Kb13 (Sum.inr e)):∀(n13:Nat) (s4_14:Nat),(0<n13/\s3_6<s4_14+n13)->Z53_l13 a0 s3_6 k_next_5 n13 s4_14=Option.bind (Z53_q13 a0 h5 (s3_6-s4_14) s4_14 ) Kb13:=by
 intro n13;induction n13 with
 | zero=>intro s4_14 hn; exact absurd hn.1 (by omega)
 | succ n13 ih13 =>
  intro s4_14 hn;rw [Z53_l13];by_cases hlt:s4_14<s3_6
  ·rw [show s3_6-s4_14=(s3_6-(s4_14+1))+1 by omega,Z53_q13];refine QT hlt ?_;refine Q.bindPO hh5 fun x20 hx_x20=>?_;refine Q.bindO rfl fun x21=>?_;refine Q.condO ?_ ?_
   ·all_goals exact hret _
   all_goals exact ih13 _ ⟨by omega,by omega⟩
  rw [show s3_6-s4_14=0 by omega,Z53_q13];refine QF hlt ?_;exact hend n13 s4_14
def Z53_q5 (a0:(Sl Bs)):List Bs->Nat->Option (Unit ⊕ Bool)
 | [],s3_6=>some (Sum.inl ())
 | h5::r5,s3_6=>Option.bind (Z53_q13 a0 h5 s3_6 0 ) fun o13=>match o13 with|Sum.inl _=>(on (()) fun _=>Z53_q5 a0 (r5) (s3_6+1) )|Sum.inr e13=>(some (Sum.inr e13))
theorem Z53_l5_qe {a0:(Sl Bs)}  (Kb5:(Unit ⊕ Bool)->Option Bool) (hend:∀(n5:Nat) (s3_6:Nat),Z53_j2   =Kb5 (Sum.inl ())) (hret:∀e:Bool,some e=Kb5 (Sum.inr e)):∀(n5:Nat) (s3_6:Nat),(0<n5/\a0.l.length<s3_6+n5)->Z53_l5 a0 n5 s3_6=Option.bind (Z53_q5 a0 (a0.l.drop s3_6) s3_6 ) Kb5:=by
 intro n5;induction n5 with
 | zero=>intro s3_6 hn; exact absurd hn.1 (by omega)
 | succ n5 ih5 =>
  intro s3_6 hn;rw [Z53_l5];by_cases hlt:s3_6<a0.l.length
  ·obtain⟨h5,hh5⟩:=Qa hlt;rw [Q.drop_of hh5,Z53_q5];refine QT hlt ?_;refine Q.wrapOO fun Kb13 hKb13=>?_;refine Z53_l13_qe hh5 Kb13 ?_ ?_ _ _ ⟨Nat.succ_pos _,by omega⟩
   ·intro n13 s4_14;refine Qe (hKb13 _) ?_;try dsimp only
    refine Q.wrapPO fun Kj11 hKj11=>?_;have hj11:Z53_j11 s3_6 (Z53_l5 a0 n5) =Kj11 ():=by
     refine Qe (hKj11 _) ?_;unfold Z53_j11;all_goals exact ih5 _ ⟨by omega,by omega⟩
    all_goals exact hj11
   intro e13;refine Qe (hKb13 _) ?_;try dsimp only
   all_goals exact hret _
  rw [dL (by omega),Z53_q5];refine QF hlt ?_;exact hend n5 s3_6
def Z53_q (a0:(Sl Bs)):Option Bool:=Option.bind (Z53_q5 a0 a0.l 0 ) fun o5=>match o5 with|Sum.inl _=>(on (()) fun _=>some false)|Sum.inr e5=>(some e5)
theorem Z53_eq (a0:(Sl Bs)):Z53 a0=Z53_q a0:=by
 unfold Z53 Z53_q;refine Qs ?_;refine Q.wrapOO fun Kb5 hKb5=>?_;refine Z53_l5_qe  Kb5 ?_ ?_ _ _ ⟨Nat.succ_pos _,by omega⟩
 ·intro n5 s3_6;refine Qe (hKb5 _) ?_;try dsimp only
  refine Q.wrapPO fun Kj2 hKj2=>?_;have hj2:Z53_j2  =Kj2 ():=by
   refine Qe (hKj2 _) ?_;unfold Z53_j2;all_goals rfl
  all_goals exact hj2
 intro e5;refine Qe (hKb5 _) ?_;try dsimp only
 all_goals rfl
def Z52_q (a0:Z9) (a1:Bool):Option Bool:=bif (decide (a0.FKind=(0:Int))) then(some ((((decide (a0.FInt=(0:Int)))&&((a0.FText==([]:Bs))))&&(decide (((a0.FItems.l.length:Nat):Int)=(0:Int))))&&(decide (((a0.FKeys.l.length:Nat):Int)=(0:Int))))) else(bif (decide (a0.FKind=(1:Int))) then(some (((((decide (a0.FInt=(0:Int)))||(decide (a0.FInt=(1:Int))))&&((a0.FText==([]:Bs))))&&(decide (((a0.FItems.l.length:Nat):Int)=(0:Int))))&&(decide (((a0.FKeys.l.length:Nat):Int)=(0:Int))))) else(bif (decide (a0.FKind=(2:Int))) then(some ((((a0.FText==([]:Bs)))&&(decide (((a0.FItems.l.length:Nat):Int)=(0:Int))))&&(decide (((a0.FKeys.l.length:Nat):Int)=(0:Int))))) else(bif (decide (a0.FKind=(3:Int))) then(some (((decide (a0.FInt=(0:Int)))&&(decide (((a0.FItems.l.length:Nat):Int)=(0:Int))))&&(decide (((a0.FKeys.l.length:Nat):Int)=(0:Int))))) else(bif (decide (a0.FKind=(4:Int))) then(on (bif (((decide (a0.FInt=(0:Int)))&&(decide (((a0.FItems.l.length:Nat):Int)=(0:Int))))&&(decide (((a0.FKeys.l.length:Nat):Int)=(0:Int)))) then Z46_q a0.FText else false) fun x19=>some (((((((decide (a0.FInt=(0:Int)))&&(decide (((a0.FItems.l.length:Nat):Int)=(0:Int))))&&(decide (((a0.FKeys.l.length:Nat):Int)=(0:Int))))&&x19)&&(!(a0.FText==([116,114,117,101]:Bs))))&&(!(a0.FText==([102,97,108,115,101]:Bs))))&&(!(a0.FText==([110,117,108,108]:Bs))))) else(bif (decide (a0.FKind=(5:Int))) then(some (((decide (a0.FInt=(0:Int)))&&((a0.FText==([]:Bs))))&&(decide (((a0.FKeys.l.length:Nat):Int)=(0:Int))))) else(bif (decide (a0.FKind=(6:Int))) then(guardO ((((decide (a0.FInt=(0:Int)))&&((a0.FText==([]:Bs))))&&(decide (((a0.FKeys.l.length:Nat):Int)=((a0.FItems.l.length:Nat):Int))))) (Z53_q a0.FKeys) false fun x26=>some ((((decide (a0.FInt=(0:Int)))&&((a0.FText==([]:Bs))))&&(decide (((a0.FKeys.l.length:Nat):Int)=((a0.FItems.l.length:Nat):Int))))&&(!x26))) else(bif (decide (a0.FKind=(7:Int))) then(on (bif (((a1&&(decide (a0.FInt=(0:Int))))&&(decide (((a0.FItems.l.length:Nat):Int)=(0:Int))))&&(decide (((a0.FKeys.l.length:Nat):Int)=(0:Int)))) then Z46_q a0.FText else false) fun x30=>some ((((a1&&(decide (a0.FInt=(0:Int))))&&(decide (((a0.FItems.l.length:Nat):Int)=(0:Int))))&&(decide (((a0.FKeys.l.length:Nat):Int)=(0:Int))))&&x30)) else(some false))))))))
theorem Z52_eq (a0:Z9) (a1:Bool):Z52 a0 a1=Z52_q a0 a1:=by
 unfold Z52 Z52_q;refine Qs ?_;refine Q.condO ?_ ?_
 ·all_goals rfl
 refine Q.condO ?_ ?_
 ·all_goals rfl
 refine Q.condO ?_ ?_
 ·all_goals rfl
 refine Q.condO ?_ ?_
 ·all_goals rfl
 refine Q.condO ?_ ?_
 ·refine Q.guardPO (Z46_eq _) fun x19 hx_x19=>?_;all_goals rfl
 refine Q.condO ?_ ?_
 ·all_goals rfl
 refine Q.condO ?_ ?_
 ·refine Q.guardOO (Z53_eq _) fun x26=>?_;all_goals rfl
 refine Q.condO ?_ ?_
 ·refine Q.guardPO (Z46_eq _) fun x30 hx_x30=>?_;all_goals rfl
 all_goals rfl
def Z54_q24 (a1:Bool):List Bs->Unit ⊕ Bool
 | []=>Sum.inl ()
 | h24::r24=>on (bif a1 then h24 else([]:Bs)) fun x32=>on (bif a1 then Z46_q x32 else false) fun x33=>bif (a1&&(!x33)) then(Sum.inr false) else(Z54_q24 a1 (r24) )
theorem Z54_l24_qe {a0:Z9}{a1:Bool}{k_rec_103:Z9->Bool->Option Bool}  (Kb24:(Unit ⊕ Bool)->Option Bool) (hend:∀(n24:Nat) (s5_25:Nat),Z54_j7 a0 a1 k_rec_103 =Kb24 (Sum.inl ())) (hret:∀e:Bool,some e=Kb24 (Sum.inr e)):∀(n24:Nat) (s5_25:Nat),(0<n24/\a0.FKeys.l.length<s5_25+n24)->Z54_l24 a0 a1 k_rec_103 n24 s5_25=Kb24 (Z54_q24 a1 (a0.FKeys.l.drop s5_25) ):=by
 intro n24;induction n24 with
 | zero=>intro s5_25 hn; exact absurd hn.1 (by omega)
 | succ n24 ih24 =>
  intro s5_25 hn;rw [Z54_l24];by_cases hlt:s5_25<a0.FKeys.l.length
  ·obtain⟨h24,hh24⟩:=Qa hlt;rw [Q.drop_of hh24,Z54_q24];refine QT hlt ?_;refine Q.guardP hh24 fun x32 hx_x32=>?_;refine Q.guardP (Z46_eq _) fun x33 hx_x33=>?_;refine Q.condP ?_ ?_
   ·all_goals exact hret _
   all_goals exact ih24 _ ⟨by omega,by omega⟩
  rw [dL (by omega),Z54_q24];refine QF hlt ?_;exact hend n24 s5_25
def Z54_q11 (a1:Bool) (k_rec_103:Z9->Bool->Option Bool):List Z9->Option (Unit ⊕ Bool)
 | []=>some (Sum.inl ())
 | h11::r11=>on (h11) fun x19=>(k_rec_103 x19 a1).bind fun x20=>bif (!x20) then(some (Sum.inr false)) else(Z54_q11 a1 k_rec_103 (r11) )
theorem Z54_l11_qe {a0:Z9}{a1:Bool}{k_rec_103:Z9->Bool->Option Bool}  (Kb11:(Unit ⊕ Bool)->Option Bool) (hend:∀(n11:Nat) (s6_12:Nat),Z54_j8   =Kb11 (Sum.inl ())) (hret:∀e:Bool,some e=Kb11 (Sum.inr e)):∀(n11:Nat) (s6_12:Nat),(0<n11/\a0.FItems.l.length<s6_12+n11)->Z54_l11 a0 a1 k_rec_103 n11 s6_12=Option.bind (Z54_q11 a1 k_rec_103 (a0.FItems.l.drop s6_12) ) Kb11:=by
 intro n11;induction n11 with
 | zero=>intro s6_12 hn; exact absurd hn.1 (by omega)
 | succ n11 ih11 =>
  intro s6_12 hn;rw [Z54_l11];by_cases hlt:s6_12<a0.FItems.l.length
  ·obtain⟨h11,hh11⟩:=Qa hlt;rw [Q.drop_of hh11,Z54_q11];refine QT hlt ?_;refine Q.bindPO hh11 fun x19 hx_x19=>?_;refine Q.bindO rfl fun x20=>?_;refine Q.condO ?_ ?_
   ·all_goals exact hret _
   all_goals exact ih11 _ ⟨by omega,by omega⟩
  rw [dL (by omega),Z54_q11];refine QF hlt ?_;exact hend n11 s6_12
def Z54_qn:Nat->Z9->Bool->Option Bool
 | 0,_,_=>none
 | n+1,a0,a1=>(Z52_q a0 a1).bind fun x4=>bif (!x4) then(some false) else(on (Z54_q24 a1 a0.FKeys.l ) fun o24=>match o24 with|Sum.inl _=>(on (()) fun _=>Option.bind (Z54_q11 a1 (Z54_qn n) a0.FItems.l ) fun o11=>match o11 with|Sum.inl _=>(on (()) fun _=>some true)|Sum.inr e11=>(some e11))|Sum.inr e24=>(some e24))
theorem Z54_qall:∀n:Nat,Z54_n n=Z54_qn n:=by
 intro n;induction n with
 | zero=>exact(by funext a0 a1; first|rfl|(rw [Z54_n,Z54_qn]))
 | succ n ih =>
  funext a0 a1
  refine Qs ?_;rw [Z54_n,Z54_qn];try rw [ih]
  refine Q.bindO (Z52_eq _ _) fun x4=>?_;refine Q.condO ?_ ?_
  ·all_goals rfl
  refine Q.wrapPO fun Kb24 hKb24=>?_;refine Z54_l24_qe  Kb24 ?_ ?_ _ _ ⟨Nat.succ_pos _,by omega⟩
  ·intro n24 s5_25;refine Qe (hKb24 _) ?_;try dsimp only
   refine Q.wrapPO fun Kj7 hKj7=>?_;have hj7:Z54_j7 a0 a1 (Z54_qn n) =Kj7 ():=by
    refine Qe (hKj7 _) ?_;unfold Z54_j7;refine Q.wrapOO fun Kb11 hKb11=>?_;refine Z54_l11_qe  Kb11 ?_ ?_ _ _ ⟨Nat.succ_pos _,by omega⟩
    ·intro n11 s6_12;refine Qe (hKb11 _) ?_;try dsimp only
     refine Q.wrapPO fun Kj8 hKj8=>?_;have hj8:Z54_j8  =Kj8 ():=by
      refine Qe (hKj8 _) ?_;unfold Z54_j8;all_goals rfl
     all_goals exact hj8
    intro e11;refine Qe (hKb11 _) ?_;try dsimp only
    all_goals rfl
   all_goals exact hj7
  intro e24;refine Qe (hKb24 _) ?_;try dsimp only
  all_goals rfl
def Z54_q (a0:Z9) (a1:Bool):Option Bool:=Z54_qn F0 a0 a1
theorem Z54_eq (a0:Z9) (a1:Bool):Z54 a0 a1=Z54_q a0 a1:=by
 unfold Z54 Z54_q; rw [(Z54_qall F0)]
def Z50_q (a0:Z9):Option Bool:=(Z51_q a0).bind fun x3=>guardO ((decide (x3<=(4096:Int)))) (Z49_q a0) (0:Int) fun x4=>guardO (((decide (x3<=(4096:Int)))&&(decide (x4<=(24:Int))))) (Z54_q a0 true) false fun x5=>some (((decide (x3<=(4096:Int)))&&(decide (x4<=(24:Int))))&&x5)
theorem Z50_eq (a0:Z9):Z50 a0=Z50_q a0:=by
 unfold Z50 Z50_q;refine Qs ?_;refine Q.bindO (Z51_eq _) fun x3=>?_;refine Q.guardOO (Z49_eq _) fun x4=>?_;refine Q.guardOO (Z54_eq _ _) fun x5=>?_;all_goals rfl
def Z57_q5 (k_rec_100:Z9->Option Bool):List Z9->Option (Unit ⊕ Bool)
 | []=>some (Sum.inl ())
 | h5::r5=>on (h5) fun x13=>(k_rec_100 x13).bind fun x14=>bif (!x14) then(some (Sum.inr false)) else(Z57_q5 k_rec_100 (r5) )
theorem Z57_l5_qe {a0:Z9}{k_rec_100:Z9->Option Bool}  (Kb5:(Unit ⊕ Bool)->Option Bool) (hend:∀(n5:Nat) (s3_6:Nat),Z57_j2 a0  =Kb5 (Sum.inl ())) (hret:∀e:Bool,some e=Kb5 (Sum.inr e)):∀(n5:Nat) (s3_6:Nat),(0<n5/\a0.FItems.l.length<s3_6+n5)->Z57_l5 a0 k_rec_100 n5 s3_6=Option.bind (Z57_q5 k_rec_100 (a0.FItems.l.drop s3_6) ) Kb5:=by
 intro n5;induction n5 with
 | zero=>intro s3_6 hn; exact absurd hn.1 (by omega)
 | succ n5 ih5 =>
  intro s3_6 hn;rw [Z57_l5];by_cases hlt:s3_6<a0.FItems.l.length
  ·obtain⟨h5,hh5⟩:=Qa hlt;rw [Q.drop_of hh5,Z57_q5];refine QT hlt ?_;refine Q.bindPO hh5 fun x13 hx_x13=>?_;refine Q.bindO rfl fun x14=>?_;refine Q.condO ?_ ?_
   ·all_goals exact hret _
   all_goals exact ih5 _ ⟨by omega,by omega⟩
  rw [dL (by omega),Z57_q5];refine QF hlt ?_;exact hend n5 s3_6
def Z57_qn:Nat->Z9->Option Bool
 | 0,_=>none
 | n+1,a0=>Option.bind (Z57_q5 (Z57_qn n) a0.FItems.l ) fun o5=>match o5 with|Sum.inl _=>(on (()) fun _=>some (!decide (a0.FKind=(7:Int))))|Sum.inr e5=>(some e5)
theorem Z57_qall:∀n:Nat,Z57_n n=Z57_qn n:=by
 intro n;induction n with
 | zero=>exact(by funext a0; first|rfl|(rw [Z57_n,Z57_qn]))
 | succ n ih =>
  funext a0
  refine Qs ?_;rw [Z57_n,Z57_qn];try rw [ih]
  refine Q.wrapOO fun Kb5 hKb5=>?_;refine Z57_l5_qe  Kb5 ?_ ?_ _ _ ⟨Nat.succ_pos _,by omega⟩
  ·intro n5 s3_6;refine Qe (hKb5 _) ?_;try dsimp only
   refine Q.wrapPO fun Kj2 hKj2=>?_;have hj2:Z57_j2 a0 =Kj2 ():=by
    refine Qe (hKj2 _) ?_;unfold Z57_j2;all_goals rfl
   all_goals exact hj2
  intro e5;refine Qe (hKb5 _) ?_;try dsimp only
  all_goals rfl
def Z57_q (a0:Z9):Option Bool:=Z57_qn F0 a0
theorem Z57_eq (a0:Z9):Z57 a0=Z57_q a0:=by
 unfold Z57 Z57_q; rw [(Z57_qall F0)]
def Z59_q25 (h10:TDir):List TArg->Option (Unit ⊕ Bool)
 | []=>some (Sum.inl ())
 | h25::r25=>on (h10) fun x34=>on (h25) fun x35=>on (Z46_q x35.FName) fun x37=>guardO (!(!x37)) (Z50_q x35.FValue) false fun x38=>guardO (!((!x37)||(!x38))) (Z57_q x35.FValue) false fun x39=>bif (((!x37)||(!x38))||(!x39)) then(some (Sum.inr false)) else(Z59_q25 h10 (r25) )
theorem Z59_l25_qe {a0:(Sl TDir)}{s3_11:Nat}{k_next_10:Nat->Option Bool}{h10:TDir}(hh10:a0.l[s3_11]?=some h10) (Kb25:(Unit ⊕ Bool)->Option Bool) (hend:∀(n25:Nat) (s4_26:Nat),Z59_j16 s3_11 k_next_10 =Kb25 (Sum.inl ())) (hret:∀e:Bool,some e=Kb25 (Sum.inr e)):∀(n25:Nat) (s4_26:Nat),(0<n25/\h10.FArgs.l.length<s4_26+n25)->Z59_l25 a0 s3_11 k_next_10 n25 s4_26=Option.bind (Z59_q25 h10 (h10.FArgs.l.drop s4_26) ) Kb25:=by
 intro n25;induction n25 with
 | zero=>intro s4_26 hn; exact absurd hn.1 (by omega)
 | succ n25 ih25 =>
  intro s4_26 hn;rw [Z59_l25];refine Q.preB hh10 fun x29 hx_x29=>?_;subst hx_x29;by_cases hlt:s4_26<x29.FArgs.l.length
  ·obtain⟨h25,hh25⟩:=Qa hlt;rw [Q.drop_of hh25,Z59_q25];refine QT hlt ?_;refine Q.bindPO hh10 fun x34 hx_x34=>?_;refine Q.bindPO (by first|exact hh25|(simp only [hx_x34]; exact hh25)|(simp only [hx_x34] at hh25 ⊢; exact hh25)) fun x35 hx_x35=>?_;refine Q.bindPO (Z46_eq _) fun x37 hx_x37=>?_;refine Q.guardOO (Z50_eq _) fun x38=>?_;refine Q.guardOO (Z57_eq _) fun x39=>?_;refine Q.condO ?_ ?_
   ·all_goals exact hret _
   all_goals exact ih25 _ ⟨by omega,by omega⟩
  rw [dL (by omega),Z59_q25];refine QF hlt ?_;exact hend n25 s4_26
def Z59_q10 :List TDir->Option (Unit ⊕ Bool)
 | []=>some (Sum.inl ())
 | h10::r10=>on (h10) fun x19=>on (Z46_q x19.FName) fun x20=>on (bif !(!x20) then h10 else TDir.zero) fun x21=>bif ((!x20)||(decide ((16:Int)<((x21.FArgs.l.length:Nat):Int)))) then(some (Sum.inr false)) else(Option.bind (Z59_q25 h10 h10.FArgs.l ) fun o25=>match o25 with|Sum.inl _=>(on (()) fun _=>Z59_q10  (r10) )|Sum.inr e25=>(some (Sum.inr e25)))
theorem Z59_l10_qe {a0:(Sl TDir)}  (Kb10:(Unit ⊕ Bool)->Option Bool) (hend:∀(n10:Nat) (s3_11:Nat),Z59_j7   =Kb10 (Sum.inl ())) (hret:∀e:Bool,some e=Kb10 (Sum.inr e)):∀(n10:Nat) (s3_11:Nat),(0<n10/\a0.l.length<s3_11+n10)->Z59_l10 a0 n10 s3_11=Option.bind (Z59_q10  (a0.l.drop s3_11) ) Kb10:=by
 intro n10;induction n10 with
 | zero=>intro s3_11 hn; exact absurd hn.1 (by omega)
 | succ n10 ih10 =>
  intro s3_11 hn;rw [Z59_l10];by_cases hlt:s3_11<a0.l.length
  ·obtain⟨h10,hh10⟩:=Qa hlt;rw [Q.drop_of hh10,Z59_q10];refine QT hlt ?_;refine Q.bindPO hh10 fun x19 hx_x19=>?_;refine Q.bindPO (Z46_eq _) fun x20 hx_x20=>?_;refine Q.guardPO hh10 fun x21 hx_x21=>?_;refine Q.condO ?_ ?_
   ·all_goals exact hret _
   refine Q.wrapOO fun Kb25 hKb25=>?_;refine Z59_l25_qe hh10 Kb25 ?_ ?_ _ _ ⟨by rw [hh10]; exact Nat.succ_pos _,by rw [hh10]; simp only [Option.elim]; omega⟩
   ·intro n25 s4_26;refine Qe (hKb25 _) ?_;try dsimp only
    refine Q.wrapPO fun Kj16 hKj16=>?_;have hj16:Z59_j16 s3_11 (Z59_l10 a0 n10) =Kj16 ():=by
     refine Qe (hKj16 _) ?_;unfold Z59_j16;all_goals exact ih10 _ ⟨by omega,by omega⟩
    all_goals exact hj16
   intro e25;refine Qe (hKb25 _) ?_;try dsimp only
   all_goals exact hret _
  rw [dL (by omega),Z59_q10];refine QF hlt ?_;exact hend n10 s3_11
def Z59_q (a0:(Sl TDir)):Option Bool:=bif (decide ((16:Int)<((a0.l.length:Nat):Int))) then(some false) else(Option.bind (Z59_q10  a0.l ) fun o10=>match o10 with|Sum.inl _=>(on (()) fun _=>some true)|Sum.inr e10=>(some e10))
theorem Z59_eq (a0:(Sl TDir)):Z59 a0=Z59_q a0:=by
 unfold Z59 Z59_q;refine Qs ?_;refine Q.condO ?_ ?_
 ·all_goals rfl
 refine Q.wrapOO fun Kb10 hKb10=>?_;refine Z59_l10_qe  Kb10 ?_ ?_ _ _ ⟨Nat.succ_pos _,by omega⟩
 ·intro n10 s3_11;refine Qe (hKb10 _) ?_;try dsimp only
  refine Q.wrapPO fun Kj7 hKj7=>?_;have hj7:Z59_j7  =Kj7 ():=by
   refine Qe (hKj7 _) ?_;unfold Z59_j7;all_goals rfl
  all_goals exact hj7
 intro e10;refine Qe (hKb10 _) ?_;try dsimp only
 all_goals rfl
def Z55_q10 (a0:TRef):List Int->Nat->Option (Unit ⊕ Bool)
 | [],s3_11=>some (Sum.inl ())
 | h10::r10,s3_11=>on (h10) fun x19=>on (bif (!decide (x19=(1:Int))) then h10 else(0:Int)) fun x20=>bif ((!decide (x19=(1:Int)))&&(!decide (x20=(2:Int)))) then(some (Sum.inr false)) else(on (bif (decide ((0:Int)<((s3_11:Nat):Int))) then h10 else(0:Int)) fun x24=>guardO (((decide ((0:Int)<((s3_11:Nat):Int)))&&(decide (x24=(1:Int))))) (subC ((s3_11:Nat):Int) (1:Int)) (0:Int) fun x25=>guardO (((decide ((0:Int)<((s3_11:Nat):Int)))&&(decide (x24=(1:Int))))) (idxC a0.FWraps.l x25) (0:Int) fun x26=>bif (((decide ((0:Int)<((s3_11:Nat):Int)))&&(decide (x24=(1:Int))))&&(decide (x26=(1:Int)))) then(some (Sum.inr false)) else(Z55_q10 a0 (r10) (s3_11+1) ))
theorem Z55_l10_qe {a0:TRef}  (Kb10:(Unit ⊕ Bool)->Option Bool) (hend:∀(n10:Nat) (s3_11:Nat),Z55_j7   =Kb10 (Sum.inl ())) (hret:∀e:Bool,some e=Kb10 (Sum.inr e)):∀(n10:Nat) (s3_11:Nat),(0<n10/\a0.FWraps.l.length<s3_11+n10)->Z55_l10 a0 n10 s3_11=Option.bind (Z55_q10 a0 (a0.FWraps.l.drop s3_11) s3_11 ) Kb10:=by
 intro n10;induction n10 with
 | zero=>intro s3_11 hn; exact absurd hn.1 (by omega)
 | succ n10 ih10 =>
  intro s3_11 hn;rw [Z55_l10];by_cases hlt:s3_11<a0.FWraps.l.length
  ·obtain⟨h10,hh10⟩:=Qa hlt;rw [Q.drop_of hh10,Z55_q10];refine QT hlt ?_;refine Q.bindPO hh10 fun x19 hx_x19=>?_;refine Q.guardPO hh10 fun x20 hx_x20=>?_;refine Q.condO ?_ ?_
   ·all_goals exact hret _
   refine Q.guardPO hh10 fun x24 hx_x24=>?_;refine Q.guardOO rfl fun x25=>?_;refine Q.guardOO rfl fun x26=>?_;refine Q.condO ?_ ?_
   ·all_goals exact hret _
   all_goals exact ih10 _ ⟨by omega,by omega⟩
  rw [dL (by omega),Z55_q10];refine QF hlt ?_;exact hend n10 s3_11
def Z55_q (a0:TRef):Option Bool:=on (Z46_q a0.FName) fun x4=>bif ((!x4)||(decide ((24:Int)<((a0.FWraps.l.length:Nat):Int)))) then(some false) else(Option.bind (Z55_q10 a0 a0.FWraps.l 0 ) fun o10=>match o10 with|Sum.inl _=>(on (()) fun _=>some true)|Sum.inr e10=>(some e10))
theorem Z55_eq (a0:TRef):Z55 a0=Z55_q a0:=by
 unfold Z55 Z55_q;refine Qs ?_;refine Q.bindPO (Z46_eq _) fun x4 hx_x4=>?_;refine Q.condO ?_ ?_
 ·all_goals rfl
 refine Q.wrapOO fun Kb10 hKb10=>?_;refine Z55_l10_qe  Kb10 ?_ ?_ _ _ ⟨Nat.succ_pos _,by omega⟩
 ·intro n10 s3_11;refine Qe (hKb10 _) ?_;try dsimp only
  refine Q.wrapPO fun Kj7 hKj7=>?_;have hj7:Z55_j7  =Kj7 ():=by
   refine Qe (hKj7 _) ?_;unfold Z55_j7;all_goals rfl
  all_goals exact hj7
 intro e10;refine Qe (hKb10 _) ?_;try dsimp only
 all_goals rfl
def Z63_q (a0:Z9):Bool:=(((((decide (a0.FKind=(0:Int)))&&(decide (a0.FInt=(0:Int))))&&((a0.FText==([]:Bs))))&&(decide (((a0.FItems.l.length:Nat):Int)=(0:Int))))&&(decide (((a0.FKeys.l.length:Nat):Int)=(0:Int))))
theorem Z63_eq (a0:Z9):Z63 a0=some (Z63_q a0):=by
 unfold Z63 Z63_q;all_goals rfl
def Z61_q10 :List Z6->Option (Unit ⊕ Bool)
 | []=>some (Sum.inl ())
 | h10::r10=>on (h10) fun x18=>on (Z46_q x18.FName) fun x21=>guardO (!(!x21)) (Z55_q x18.FType) false fun x22=>guardO (!((!x21)||(!x22))) (Z59_q x18.FDirs) false fun x23=>bif (((!x21)||(!x22))||(!x23)) then(some (Sum.inr false)) else(guardO (x18.FHas) (Z50_q x18.FDefault) false fun x27=>guardO ((x18.FHas&&!(!x27))) (Z57_q x18.FDefault) false fun x28=>on (bif (!(x18.FHas&&((!x27)||(!x28)))&&(!x18.FHas)) then Z63_q x18.FDefault else false) fun x29=>bif ((x18.FHas&&((!x27)||(!x28)))||((!x18.FHas)&&(!x29))) then(some (Sum.inr false)) else(Z61_q10  (r10) ))
theorem Z61_l10_qe {a0:(Sl Z6)}  (Kb10:(Unit ⊕ Bool)->Option Bool) (hend:∀(n10:Nat) (s3_11:Nat),Z61_j7   =Kb10 (Sum.inl ())) (hret:∀e:Bool,some e=Kb10 (Sum.inr e)):∀(n10:Nat) (s3_11:Nat),(0<n10/\a0.l.length<s3_11+n10)->Z61_l10 a0 n10 s3_11=Option.bind (Z61_q10  (a0.l.drop s3_11) ) Kb10:=by
 intro n10;induction n10 with
 | zero=>intro s3_11 hn; exact absurd hn.1 (by omega)
 | succ n10 ih10 =>
  intro s3_11 hn;rw [Z61_l10];by_cases hlt:s3_11<a0.l.length
  ·obtain⟨h10,hh10⟩:=Qa hlt;rw [Q.drop_of hh10,Z61_q10];refine QT hlt ?_;refine Q.bindPO hh10 fun x18 hx_x18=>?_;refine Q.bindPO (Z46_eq _) fun x21 hx_x21=>?_;refine Q.guardOO (Z55_eq _) fun x22=>?_;refine Q.guardOO (Z59_eq _) fun x23=>?_;refine Q.condO ?_ ?_
   ·all_goals exact hret _
   refine Q.guardOO (Z50_eq _) fun x27=>?_;refine Q.guardOO (Z57_eq _) fun x28=>?_;refine Q.guardPO (Z63_eq _) fun x29 hx_x29=>?_;refine Q.condO ?_ ?_
   ·all_goals exact hret _
   all_goals exact ih10 _ ⟨by omega,by omega⟩
  rw [dL (by omega),Z61_q10];refine QF hlt ?_;exact hend n10 s3_11
def Z61_q (a0:(Sl Z6)):Option Bool:=bif (decide ((16:Int)<((a0.l.length:Nat):Int))) then(some false) else(Option.bind (Z61_q10  a0.l ) fun o10=>match o10 with|Sum.inl _=>(on (()) fun _=>some true)|Sum.inr e10=>(some e10))
theorem Z61_eq (a0:(Sl Z6)):Z61 a0=Z61_q a0:=by
 unfold Z61 Z61_q;refine Qs ?_;refine Q.condO ?_ ?_
 ·all_goals rfl
 refine Q.wrapOO fun Kb10 hKb10=>?_;refine Z61_l10_qe  Kb10 ?_ ?_ _ _ ⟨Nat.succ_pos _,by omega⟩
 ·intro n10 s3_11;refine Qe (hKb10 _) ?_;try dsimp only
  refine Q.wrapPO fun Kj7 hKj7=>?_;have hj7:Z61_j7  =Kj7 ():=by
   refine Qe (hKj7 _) ?_;unfold Z61_j7;all_goals rfl
  all_goals exact hj7
 intro e10;refine Qe (hKb10 _) ?_;try dsimp only
 all_goals rfl
def Z60_q10 :List Z4->Option (Unit ⊕ Bool)
 | []=>some (Sum.inl ())
 | h10::r10=>on (h10) fun x18=>on (Z46_q x18.FName) fun x19=>on (bif !(!x19) then h10 else Z4.zero) fun x20=>guardO (!(!x19)) (Z61_q x20.FArgs) false fun x21=>on (bif !((!x19)||(!x21)) then h10 else Z4.zero) fun x22=>guardO (!((!x19)||(!x21))) (Z55_q x22.FType) false fun x23=>on (bif !(((!x19)||(!x21))||(!x23)) then h10 else Z4.zero) fun x24=>guardO (!(((!x19)||(!x21))||(!x23))) (Z59_q x24.FDirs) false fun x25=>bif ((((!x19)||(!x21))||(!x23))||(!x25)) then(some (Sum.inr false)) else(Z60_q10  (r10) )
theorem Z60_l10_qe {a0:(Sl Z4)}  (Kb10:(Unit ⊕ Bool)->Option Bool) (hend:∀(n10:Nat) (s3_11:Nat),Z60_j7   =Kb10 (Sum.inl ())) (hret:∀e:Bool,some e=Kb10 (Sum.inr e)):∀(n10:Nat) (s3_11:Nat),(0<n10/\a0.l.length<s3_11+n10)->Z60_l10 a0 n10 s3_11=Option.bind (Z60_q10  (a0.l.drop s3_11) ) Kb10:=by
 intro n10;induction n10 with
 | zero=>intro s3_11 hn; exact absurd hn.1 (by omega)
 | succ n10 ih10 =>
  intro s3_11 hn;rw [Z60_l10];by_cases hlt:s3_11<a0.l.length
  ·obtain⟨h10,hh10⟩:=Qa hlt;rw [Q.drop_of hh10,Z60_q10];refine QT hlt ?_;refine Q.bindPO hh10 fun x18 hx_x18=>?_;refine Q.bindPO (Z46_eq _) fun x19 hx_x19=>?_;refine Q.guardPO hh10 fun x20 hx_x20=>?_;refine Q.guardOO (Z61_eq _) fun x21=>?_;refine Q.guardPO hh10 fun x22 hx_x22=>?_;refine Q.guardOO (Z55_eq _) fun x23=>?_;refine Q.guardPO hh10 fun x24 hx_x24=>?_;refine Q.guardOO (Z59_eq _) fun x25=>?_
   refine Q.condO ?_ ?_
   ·all_goals exact hret _
   all_goals exact ih10 _ ⟨by omega,by omega⟩
  rw [dL (by omega),Z60_q10];refine QF hlt ?_;exact hend n10 s3_11
def Z60_q (a0:(Sl Z4)):Option Bool:=bif ((decide (((a0.l.length:Nat):Int)<(1:Int)))||(decide ((64:Int)<((a0.l.length:Nat):Int)))) then(some false) else(Option.bind (Z60_q10  a0.l ) fun o10=>match o10 with|Sum.inl _=>(on (()) fun _=>some true)|Sum.inr e10=>(some e10))
theorem Z60_eq (a0:(Sl Z4)):Z60 a0=Z60_q a0:=by
 unfold Z60 Z60_q;refine Qs ?_;refine Q.condO ?_ ?_
 ·all_goals rfl
 refine Q.wrapOO fun Kb10 hKb10=>?_;refine Z60_l10_qe  Kb10 ?_ ?_ _ _ ⟨Nat.succ_pos _,by omega⟩
 ·intro n10 s3_11;refine Qe (hKb10 _) ?_;try dsimp only
  refine Q.wrapPO fun Kj7 hKj7=>?_;have hj7:Z60_j7  =Kj7 ():=by
   refine Qe (hKj7 _) ?_;unfold Z60_j7;all_goals rfl
  all_goals exact hj7
 intro e10;refine Qe (hKb10 _) ?_;try dsimp only
 all_goals rfl
def Z62_q10 (a1:Bool):List Z7->Option (Unit ⊕ Bool)
 | []=>some (Sum.inl ())
 | h10::r10=>on (h10) fun x18=>on (Z46_q x18.FName) fun x19=>on (bif !(!x19) then h10 else Z7.zero) fun x20=>guardO (!(!x19)) (Z59_q x20.FDirs) false fun x21=>on (bif (!((!x19)||(!x21))&&a1) then h10 else Z7.zero) fun x22=>bif (((!x19)||(!x21))||(a1&&(decide ((0:Int)<((x22.FDirs.l.length:Nat):Int))))) then(some (Sum.inr false)) else(Z62_q10 a1 (r10) )
theorem Z62_l10_qe {a0:(Sl Z7)}{a1:Bool}  (Kb10:(Unit ⊕ Bool)->Option Bool) (hend:∀(n10:Nat) (s5_11:Nat),Z62_j7   =Kb10 (Sum.inl ())) (hret:∀e:Bool,some e=Kb10 (Sum.inr e)):∀(n10:Nat) (s5_11:Nat),(0<n10/\a0.l.length<s5_11+n10)->Z62_l10 a0 a1 n10 s5_11=Option.bind (Z62_q10 a1 (a0.l.drop s5_11) ) Kb10:=by
 intro n10;induction n10 with
 | zero=>intro s5_11 hn; exact absurd hn.1 (by omega)
 | succ n10 ih10 =>
  intro s5_11 hn;rw [Z62_l10];by_cases hlt:s5_11<a0.l.length
  ·obtain⟨h10,hh10⟩:=Qa hlt;rw [Q.drop_of hh10,Z62_q10];refine QT hlt ?_;refine Q.bindPO hh10 fun x18 hx_x18=>?_;refine Q.bindPO (Z46_eq _) fun x19 hx_x19=>?_;refine Q.guardPO hh10 fun x20 hx_x20=>?_;refine Q.guardOO (Z59_eq _) fun x21=>?_;refine Q.guardPO hh10 fun x22 hx_x22=>?_;refine Q.condO ?_ ?_
   ·all_goals exact hret _
   all_goals exact ih10 _ ⟨by omega,by omega⟩
  rw [dL (by omega),Z62_q10];refine QF hlt ?_;exact hend n10 s5_11
def Z62_q (a0:(Sl Z7)) (a1:Bool):Option Bool:=bif ((decide (((a0.l.length:Nat):Int)<(1:Int)))||(decide ((64:Int)<((a0.l.length:Nat):Int)))) then(some false) else(Option.bind (Z62_q10 a1 a0.l ) fun o10=>match o10 with|Sum.inl _=>(on (()) fun _=>some true)|Sum.inr e10=>(some e10))
theorem Z62_eq (a0:(Sl Z7)) (a1:Bool):Z62 a0 a1=Z62_q a0 a1:=by
 unfold Z62 Z62_q;refine Qs ?_;refine Q.condO ?_ ?_
 ·all_goals rfl
 refine Q.wrapOO fun Kb10 hKb10=>?_;refine Z62_l10_qe  Kb10 ?_ ?_ _ _ ⟨Nat.succ_pos _,by omega⟩
 ·intro n10 s5_11;refine Qe (hKb10 _) ?_;try dsimp only
  refine Q.wrapPO fun Kj7 hKj7=>?_;have hj7:Z62_j7  =Kj7 ():=by
   refine Qe (hKj7 _) ?_;unfold Z62_j7;all_goals rfl
  all_goals exact hj7
 intro e10;refine Qe (hKb10 _) ?_;try dsimp only
 all_goals rfl
end Go.Proofs

namespace Go.Proofs
open Go Go.Ab
def Z58_q34 :List Bs->Unit ⊕ Bool
 | []=>Sum.inl ()
 | h34::r34=>on (h34) fun x42=>on (Z46_q x42) fun x43=>bif (!x43) then(Sum.inr false) else(Z58_q34  (r34) )
theorem Z58_l34_qe {a0:TDef}  (Kb34:(Unit ⊕ Bool)->Option Bool) (hend:∀(n34:Nat) (s3_35:Nat),Z58_j8 a0  =Kb34 (Sum.inl ())) (hret:∀e:Bool,some e=Kb34 (Sum.inr e)):∀(n34:Nat) (s3_35:Nat),(0<n34/\a0.FImplements.l.length<s3_35+n34)->Z58_l34 a0 n34 s3_35=Kb34 (Z58_q34  (a0.FImplements.l.drop s3_35) ):=by
 intro n34;induction n34 with
 | zero=>intro s3_35 hn; exact absurd hn.1 (by omega)
 | succ n34 ih34 =>
  intro s3_35 hn;rw [Z58_l34];by_cases hlt:s3_35<a0.FImplements.l.length
  ·obtain⟨h34,hh34⟩:=Qa hlt;rw [Q.drop_of hh34,Z58_q34];refine QT hlt ?_;refine Q.bindP hh34 fun x42 hx_x42=>?_;refine Q.bindP (Z46_eq _) fun x43 hx_x43=>?_;refine Q.condP ?_ ?_
   ·all_goals exact hret _
   all_goals exact ih34 _ ⟨by omega,by omega⟩
  rw [dL (by omega),Z58_q34];refine QF hlt ?_;exact hend n34 s3_35
def Z58_q (a0:TDef):Option Bool:=on (Z46_q a0.FName) fun x4=>guardO (!(!x4)) (Z59_q a0.FDirs) false fun x5=>bif (((!x4)||(!x5))||(decide ((64:Int)<((a0.FImplements.l.length:Nat):Int)))) then(some false) else(on (Z58_q34  a0.FImplements.l ) fun o34=>match o34 with|Sum.inl _=>(on (()) fun _=>bif (decide (a0.FKind=(1:Int))) then((Z60_q a0.FFields).bind fun x15=>some ((x15&&(decide (((a0.FMembers.l.length:Nat):Int)=(0:Int))))&&(decide (((a0.FInputs.l.length:Nat):Int)=(0:Int))))) else(bif (decide (a0.FKind=(2:Int))) then(guardO ((decide (((a0.FImplements.l.length:Nat):Int)=(0:Int)))) (Z60_q a0.FFields) false fun x19=>some ((((decide (((a0.FImplements.l.length:Nat):Int)=(0:Int)))&&x19)&&(decide (((a0.FMembers.l.length:Nat):Int)=(0:Int))))&&(decide (((a0.FInputs.l.length:Nat):Int)=(0:Int))))) else(bif (decide (a0.FKind=(3:Int))) then(guardO (((decide (((a0.FImplements.l.length:Nat):Int)=(0:Int)))&&(decide (((a0.FFields.l.length:Nat):Int)=(0:Int))))) (Z62_q a0.FMembers true) false fun x23=>some ((((decide (((a0.FImplements.l.length:Nat):Int)=(0:Int)))&&(decide (((a0.FFields.l.length:Nat):Int)=(0:Int))))&&x23)&&(decide (((a0.FInputs.l.length:Nat):Int)=(0:Int))))) else(bif (decide (a0.FKind=(4:Int))) then(guardO (((decide (((a0.FImplements.l.length:Nat):Int)=(0:Int)))&&(decide (((a0.FFields.l.length:Nat):Int)=(0:Int))))) (Z62_q a0.FMembers false) false fun x27=>some ((((decide (((a0.FImplements.l.length:Nat):Int)=(0:Int)))&&(decide (((a0.FFields.l.length:Nat):Int)=(0:Int))))&&x27)&&(decide (((a0.FInputs.l.length:Nat):Int)=(0:Int))))) else(bif (decide (a0.FKind=(5:Int))) then(guardO (((((decide (((a0.FImplements.l.length:Nat):Int)=(0:Int)))&&(decide (((a0.FFields.l.length:Nat):Int)=(0:Int))))&&(decide (((a0.FMembers.l.length:Nat):Int)=(0:Int))))&&(decide ((0:Int)<((a0.FInputs.l.length:Nat):Int))))) (Z61_q a0.FInputs) false fun x31=>some (((((decide (((a0.FImplements.l.length:Nat):Int)=(0:Int)))&&(decide (((a0.FFields.l.length:Nat):Int)=(0:Int))))&&(decide (((a0.FMembers.l.length:Nat):Int)=(0:Int))))&&(decide ((0:Int)<((a0.FInputs.l.length:Nat):Int))))&&x31)) else(some false))))))|Sum.inr e34=>(some e34))
theorem Z58_eq (a0:TDef):Z58 a0=Z58_q a0:=by
 unfold Z58 Z58_q;refine Qs ?_;refine Q.bindPO (Z46_eq _) fun x4 hx_x4=>?_;refine Q.guardOO (Z59_eq _) fun x5=>?_;refine Q.condO ?_ ?_
 ·all_goals rfl
 refine Q.wrapPO fun Kb34 hKb34=>?_;refine Z58_l34_qe  Kb34 ?_ ?_ _ _ ⟨Nat.succ_pos _,by omega⟩
 ·intro n34 s3_35;refine Qe (hKb34 _) ?_;try dsimp only
  refine Q.wrapPO fun Kj8 hKj8=>?_;have hj8:Z58_j8 a0 =Kj8 ():=by
   refine Qe (hKj8 _) ?_;unfold Z58_j8;refine Q.condO ?_ ?_
   ·refine Q.bindO (Z60_eq _) fun x15=>?_;all_goals rfl
   refine Q.condO ?_ ?_
   ·refine Q.guardOO (Z60_eq _) fun x19=>?_;all_goals rfl
   refine Q.condO ?_ ?_
   ·refine Q.guardOO (Z62_eq _ _) fun x23=>?_;all_goals rfl
   refine Q.condO ?_ ?_
   ·refine Q.guardOO (Z62_eq _ _) fun x27=>?_;all_goals rfl
   refine Q.condO ?_ ?_
   ·refine Q.guardOO (Z61_eq _) fun x31=>?_;all_goals rfl
   all_goals rfl
  all_goals exact hj8
 intro e34;refine Qe (hKb34 _) ?_;try dsimp only
 all_goals rfl
def Z56_q10 :List TDef->Option (Unit ⊕ Bool)
 | []=>some (Sum.inl ())
 | h10::r10=>on (h10) fun x18=>(Z58_q x18).bind fun x19=>bif (!x19) then(some (Sum.inr false)) else(Z56_q10  (r10) )
theorem Z56_l10_qe {a0:TDoc}  (Kb10:(Unit ⊕ Bool)->Option Bool) (hend:∀(n10:Nat) (s3_11:Nat),Z56_j7   =Kb10 (Sum.inl ())) (hret:∀e:Bool,some e=Kb10 (Sum.inr e)):∀(n10:Nat) (s3_11:Nat),(0<n10/\a0.FDefs.l.length<s3_11+n10)->Z56_l10 a0 n10 s3_11=Option.bind (Z56_q10  (a0.FDefs.l.drop s3_11) ) Kb10:=by
 intro n10;induction n10 with
 | zero=>intro s3_11 hn; exact absurd hn.1 (by omega)
 | succ n10 ih10 =>
  intro s3_11 hn;rw [Z56_l10];by_cases hlt:s3_11<a0.FDefs.l.length
  ·obtain⟨h10,hh10⟩:=Qa hlt;rw [Q.drop_of hh10,Z56_q10];refine QT hlt ?_;refine Q.bindPO hh10 fun x18 hx_x18=>?_;refine Q.bindO (Z58_eq _) fun x19=>?_;refine Q.condO ?_ ?_
   ·all_goals exact hret _
   all_goals exact ih10 _ ⟨by omega,by omega⟩
  rw [dL (by omega),Z56_q10];refine QF hlt ?_;exact hend n10 s3_11
def Z56_q (a0:TDoc):Option Bool:=bif ((decide (((a0.FDefs.l.length:Nat):Int)<(1:Int)))||(decide ((64:Int)<((a0.FDefs.l.length:Nat):Int)))) then(some false) else(Option.bind (Z56_q10  a0.FDefs.l ) fun o10=>match o10 with|Sum.inl _=>(on (()) fun _=>some true)|Sum.inr e10=>(some e10))
theorem Z56_eq (a0:TDoc):Z56 a0=Z56_q a0:=by
 unfold Z56 Z56_q;refine Qs ?_;refine Q.condO ?_ ?_
 ·all_goals rfl
 refine Q.wrapOO fun Kb10 hKb10=>?_;refine Z56_l10_qe  Kb10 ?_ ?_ _ _ ⟨Nat.succ_pos _,by omega⟩
 ·intro n10 s3_11;refine Qe (hKb10 _) ?_;try dsimp only
  refine Q.wrapPO fun Kj7 hKj7=>?_;have hj7:Z56_j7  =Kj7 ():=by
   refine Qe (hKj7 _) ?_;unfold Z56_j7;all_goals rfl
  all_goals exact hj7
 intro e10;refine Qe (hKb10 _) ?_;try dsimp only
 all_goals rfl
def Z67_q5 (k_rec_79:Z9->Option Bool):List Z9->Option (Unit ⊕ Bool)
 | []=>some (Sum.inl ())
 | h5::r5=>on (h5) fun x13=>(k_rec_79 x13).bind fun x14=>bif (!x14) then(some (Sum.inr false)) else(Z67_q5 k_rec_79 (r5) )
theorem Z67_l5_qe {a0:Z9}{k_rec_79:Z9->Option Bool}  (Kb5:(Unit ⊕ Bool)->Option Bool) (hend:∀(n5:Nat) (s3_6:Nat),Z67_j2 a0  =Kb5 (Sum.inl ())) (hret:∀e:Bool,some e=Kb5 (Sum.inr e)):∀(n5:Nat) (s3_6:Nat),(0<n5/\a0.FItems.l.length<s3_6+n5)->Z67_l5 a0 k_rec_79 n5 s3_6=Option.bind (Z67_q5 k_rec_79 (a0.FItems.l.drop s3_6) ) Kb5:=by
 intro n5;induction n5 with
 | zero=>intro s3_6 hn; exact absurd hn.1 (by omega)
 | succ n5 ih5 =>
  intro s3_6 hn;rw [Z67_l5];by_cases hlt:s3_6<a0.FItems.l.length
  ·obtain⟨h5,hh5⟩:=Qa hlt;rw [Q.drop_of hh5,Z67_q5];refine QT hlt ?_;refine Q.bindPO hh5 fun x13 hx_x13=>?_;refine Q.bindO rfl fun x14=>?_;refine Q.condO ?_ ?_
   ·all_goals exact hret _
   all_goals exact ih5 _ ⟨by omega,by omega⟩
  rw [dL (by omega),Z67_q5];refine QF hlt ?_;exact hend n5 s3_6
def Z67_qn:Nat->Z9->Option Bool
 | 0,_=>none
 | n+1,a0=>Option.bind (Z67_q5 (Z67_qn n) a0.FItems.l ) fun o5=>match o5 with|Sum.inl _=>(on (()) fun _=>some (!decide (a0.FKind=(7:Int))))|Sum.inr e5=>(some e5)
theorem Z67_qall:∀n:Nat,Z67_n n=Z67_qn n:=by
 intro n;induction n with
 | zero=>exact(by funext a0; first|rfl|(rw [Z67_n,Z67_qn]))
 | succ n ih =>
  funext a0
  refine Qs ?_;rw [Z67_n,Z67_qn];try rw [ih]
  refine Q.wrapOO fun Kb5 hKb5=>?_;refine Z67_l5_qe  Kb5 ?_ ?_ _ _ ⟨Nat.succ_pos _,by omega⟩
  ·intro n5 s3_6;refine Qe (hKb5 _) ?_;try dsimp only
   refine Q.wrapPO fun Kj2 hKj2=>?_;have hj2:Z67_j2 a0 =Kj2 ():=by
    refine Qe (hKj2 _) ?_;unfold Z67_j2;all_goals rfl
   all_goals exact hj2
  intro e5;refine Qe (hKb5 _) ?_;try dsimp only
  all_goals rfl
def Z67_q (a0:Z9):Option Bool:=Z67_qn F0 a0
theorem Z67_eq (a0:Z9):Z67 a0=Z67_q a0:=by
 unfold Z67 Z67_q; rw [(Z67_qall F0)]
def Z71_q6 :List TVar->Option (Unit ⊕ Bool)
 | []=>some (Sum.inl ())
 | h6::r6=>on (h6) fun x14=>on (Z46_q x14.FName) fun x17=>guardO (!(!x17)) (Z55_q x14.FType) false fun x18=>guardO (!((!x17)||(!x18))) (Z50_q x14.FDefault) false fun x19=>guardO (!(((!x17)||(!x18))||(!x19))) (Z67_q x14.FDefault) false fun x20=>bif ((((!x17)||(!x18))||(!x19))||(!x20)) then(some (Sum.inr false)) else(bif ((!x14.FHas)&&(!decide (x14.FDefault.FKind=(0:Int)))) then(some (Sum.inr false)) else(Z71_q6  (r6) ))
theorem Z71_l6_qe {a0:(Sl TVar)}  (Kb6:(Unit ⊕ Bool)->Option Bool) (hend:∀(n6:Nat) (s3_7:Nat),Z71_j2 a0  =Kb6 (Sum.inl ())) (hret:∀e:Bool,some e=Kb6 (Sum.inr e)):∀(n6:Nat) (s3_7:Nat),(0<n6/\a0.l.length<s3_7+n6)->Z71_l6 a0 n6 s3_7=Option.bind (Z71_q6  (a0.l.drop s3_7) ) Kb6:=by
 intro n6;induction n6 with
 | zero=>intro s3_7 hn; exact absurd hn.1 (by omega)
 | succ n6 ih6 =>
  intro s3_7 hn;rw [Z71_l6];by_cases hlt:s3_7<a0.l.length
  ·obtain⟨h6,hh6⟩:=Qa hlt;rw [Q.drop_of hh6,Z71_q6];refine QT hlt ?_;refine Q.bindPO hh6 fun x14 hx_x14=>?_;refine Q.bindPO (Z46_eq _) fun x17 hx_x17=>?_;refine Q.guardOO (Z55_eq _) fun x18=>?_;refine Q.guardOO (Z50_eq _) fun x19=>?_;refine Q.guardOO (Z67_eq _) fun x20=>?_;refine Q.condO ?_ ?_
   ·all_goals exact hret _
   refine Q.condO ?_ ?_
   ·all_goals exact hret _
   all_goals exact ih6 _ ⟨by omega,by omega⟩
  rw [dL (by omega),Z71_q6];refine QF hlt ?_;exact hend n6 s3_7
def Z71_q (a0:(Sl TVar)):Option Bool:=Option.bind (Z71_q6  a0.l ) fun o6=>match o6 with|Sum.inl _=>(on (()) fun _=>some (decide (((a0.l.length:Nat):Int)<=(16:Int))))|Sum.inr e6=>(some e6)
theorem Z71_eq (a0:(Sl TVar)):Z71 a0=Z71_q a0:=by
 unfold Z71 Z71_q;refine Qs ?_;refine Q.wrapOO fun Kb6 hKb6=>?_;refine Z71_l6_qe  Kb6 ?_ ?_ _ _ ⟨Nat.succ_pos _,by omega⟩
 ·intro n6 s3_7;refine Qe (hKb6 _) ?_;try dsimp only
  refine Q.wrapPO fun Kj2 hKj2=>?_;have hj2:Z71_j2 a0 =Kj2 ():=by
   refine Qe (hKj2 _) ?_;unfold Z71_j2;all_goals rfl
  all_goals exact hj2
 intro e6;refine Qe (hKb6 _) ?_;try dsimp only
 all_goals rfl
def Z70_q (a0:Bs):Bool:=on (Z46_q a0) fun x3=>(x3&&(!(a0==([111,110]:Bs))))
theorem Z70_eq (a0:Bs):Z70 a0=some (Z70_q a0):=by
 unfold Z70 Z70_q;refine Q.bindP (Z46_eq _) fun x3 hx_x3=>?_;all_goals rfl
def Z66_q6 :List TArg->Option (Unit ⊕ Bool)
 | []=>some (Sum.inl ())
 | h6::r6=>on (h6) fun x14=>on (Z46_q x14.FName) fun x15=>on (bif !(!x15) then h6 else TArg.zero) fun x16=>guardO (!(!x15)) (Z50_q x16.FValue) false fun x17=>bif ((!x15)||(!x17)) then(some (Sum.inr false)) else(Z66_q6  (r6) )
theorem Z66_l6_qe {a0:(Sl TArg)}  (Kb6:(Unit ⊕ Bool)->Option Bool) (hend:∀(n6:Nat) (s3_7:Nat),Z66_j2 a0  =Kb6 (Sum.inl ())) (hret:∀e:Bool,some e=Kb6 (Sum.inr e)):∀(n6:Nat) (s3_7:Nat),(0<n6/\a0.l.length<s3_7+n6)->Z66_l6 a0 n6 s3_7=Option.bind (Z66_q6  (a0.l.drop s3_7) ) Kb6:=by
 intro n6;induction n6 with
 | zero=>intro s3_7 hn; exact absurd hn.1 (by omega)
 | succ n6 ih6 =>
  intro s3_7 hn;rw [Z66_l6];by_cases hlt:s3_7<a0.l.length
  ·obtain⟨h6,hh6⟩:=Qa hlt;rw [Q.drop_of hh6,Z66_q6];refine QT hlt ?_;refine Q.bindPO hh6 fun x14 hx_x14=>?_;refine Q.bindPO (Z46_eq _) fun x15 hx_x15=>?_;refine Q.guardPO hh6 fun x16 hx_x16=>?_;refine Q.guardOO (Z50_eq _) fun x17=>?_;refine Q.condO ?_ ?_
   ·all_goals exact hret _
   all_goals exact ih6 _ ⟨by omega,by omega⟩
  rw [dL (by omega),Z66_q6];refine QF hlt ?_;exact hend n6 s3_7
def Z66_q (a0:(Sl TArg)):Option Bool:=Option.bind (Z66_q6  a0.l ) fun o6=>match o6 with|Sum.inl _=>(on (()) fun _=>some (decide (((a0.l.length:Nat):Int)<=(16:Int))))|Sum.inr e6=>(some e6)
theorem Z66_eq (a0:(Sl TArg)):Z66 a0=Z66_q a0:=by
 unfold Z66 Z66_q;refine Qs ?_;refine Q.wrapOO fun Kb6 hKb6=>?_;refine Z66_l6_qe  Kb6 ?_ ?_ _ _ ⟨Nat.succ_pos _,by omega⟩
 ·intro n6 s3_7;refine Qe (hKb6 _) ?_;try dsimp only
  refine Q.wrapPO fun Kj2 hKj2=>?_;have hj2:Z66_j2 a0 =Kj2 ():=by
   refine Qe (hKj2 _) ?_;unfold Z66_j2;all_goals rfl
  all_goals exact hj2
 intro e6;refine Qe (hKb6 _) ?_;try dsimp only
 all_goals rfl
def Z68_q6 :List TDir->Option (Unit ⊕ Bool)
 | []=>some (Sum.inl ())
 | h6::r6=>on (h6) fun x14=>on (Z46_q x14.FName) fun x15=>on (bif !(!x15) then h6 else TDir.zero) fun x16=>guardO (!(!x15)) (Z66_q x16.FArgs) false fun x17=>bif ((!x15)||(!x17)) then(some (Sum.inr false)) else(Z68_q6  (r6) )
theorem Z68_l6_qe {a0:(Sl TDir)}  (Kb6:(Unit ⊕ Bool)->Option Bool) (hend:∀(n6:Nat) (s3_7:Nat),Z68_j2 a0  =Kb6 (Sum.inl ())) (hret:∀e:Bool,some e=Kb6 (Sum.inr e)):∀(n6:Nat) (s3_7:Nat),(0<n6/\a0.l.length<s3_7+n6)->Z68_l6 a0 n6 s3_7=Option.bind (Z68_q6  (a0.l.drop s3_7) ) Kb6:=by
 intro n6;induction n6 with
 | zero=>intro s3_7 hn; exact absurd hn.1 (by omega)
 | succ n6 ih6 =>
  intro s3_7 hn;rw [Z68_l6];by_cases hlt:s3_7<a0.l.length
  ·obtain⟨h6,hh6⟩:=Qa hlt;rw [Q.drop_of hh6,Z68_q6];refine QT hlt ?_;refine Q.bindPO hh6 fun x14 hx_x14=>?_;refine Q.bindPO (Z46_eq _) fun x15 hx_x15=>?_;refine Q.guardPO hh6 fun x16 hx_x16=>?_;refine Q.guardOO (Z66_eq _) fun x17=>?_;refine Q.condO ?_ ?_
   ·all_goals exact hret _
   all_goals exact ih6 _ ⟨by omega,by omega⟩
  rw [dL (by omega),Z68_q6];refine QF hlt ?_;exact hend n6 s3_7
def Z68_q (a0:(Sl TDir)):Option Bool:=Option.bind (Z68_q6  a0.l ) fun o6=>match o6 with|Sum.inl _=>(on (()) fun _=>some (decide (((a0.l.length:Nat):Int)<=(16:Int))))|Sum.inr e6=>(some e6)
theorem Z68_eq (a0:(Sl TDir)):Z68 a0=Z68_q a0:=by
 unfold Z68 Z68_q;refine Qs ?_;refine Q.wrapOO fun Kb6 hKb6=>?_;refine Z68_l6_qe  Kb6 ?_ ?_ _ _ ⟨Nat.succ_pos _,by omega⟩
 ·intro n6 s3_7;refine Qe (hKb6 _) ?_;try dsimp only
  refine Q.wrapPO fun Kj2 hKj2=>?_;have hj2:Z68_j2 a0 =Kj2 ():=by
   refine Qe (hKj2 _) ?_;unfold Z68_j2;all_goals rfl
  all_goals exact hj2
 intro e6;refine Qe (hKb6 _) ?_;try dsimp only
 all_goals rfl
def r08_selsRight_q10 (a1:Int) (k_rec_80:TSel->Int->Option Bool):List TSel->Option (Unit ⊕ Bool)
 | []=>some (Sum.inl ())
 | h10::r10=>on (h10) fun x18=>(k_rec_80 x18 a1).bind fun x19=>bif (!x19) then(some (Sum.inr false)) else(r08_selsRight_q10 a1 k_rec_80 (r10) )
theorem r08_selsRight_l10_qe {a0:(Sl TSel)}{a1:Int}{k_rec_80:TSel->Int->Option Bool}  (Kb10:(Unit ⊕ Bool)->Option Bool) (hend:∀(n10:Nat) (s5_11:Nat),r08_selsRight_j7   =Kb10 (Sum.inl ())) (hret:∀e:Bool,some e=Kb10 (Sum.inr e)):∀(n10:Nat) (s5_11:Nat),(0<n10/\a0.l.length<s5_11+n10)->r08_selsRight_l10 a0 a1 k_rec_80 n10 s5_11=Option.bind (r08_selsRight_q10 a1 k_rec_80 (a0.l.drop s5_11) ) Kb10:=by
 intro n10;induction n10 with
 | zero=>intro s5_11 hn; exact absurd hn.1 (by omega)
 | succ n10 ih10 =>
  intro s5_11 hn;rw [r08_selsRight_l10];by_cases hlt:s5_11<a0.l.length
  ·obtain⟨h10,hh10⟩:=Qa hlt;rw [Q.drop_of hh10,r08_selsRight_q10];refine QT hlt ?_;refine Q.bindPO hh10 fun x18 hx_x18=>?_;refine Q.bindO rfl fun x19=>?_;refine Q.condO ?_ ?_
   ·all_goals exact hret _
   all_goals exact ih10 _ ⟨by omega,by omega⟩
  rw [dL (by omega),r08_selsRight_q10];refine QF hlt ?_;exact hend n10 s5_11
mutual
def r08_selsRight_qn:Nat->(Sl TSel)->Int->Option Bool
 | 0,_,_=>none
 | n+1,a0,a1=>bif (((decide (((a0.l.length:Nat):Int)=(0:Int)))||(decide ((64:Int)<((a0.l.length:Nat):Int))))||(decide ((24:Int)<a1))) then(some false) else(Option.bind (r08_selsRight_q10 a1 (Z69_qn n) a0.l ) fun o10=>match o10 with|Sum.inl _=>(on (()) fun _=>some true)|Sum.inr e10=>(some e10))
def Z69_qn:Nat->TSel->Int->Option Bool
 | 0,_,_=>none
 | n+1,a0,a1=>(Z68_q a0.FDirs).bind fun x4=>guardO (!(!x4)) (Z66_q a0.FArgs) false fun x5=>bif ((!x4)||(!x5)) then(some false) else(bif (decide (a0.FKind=(1:Int))) then(on (Z46_q a0.FName) fun x13=>on (bif (x13&&!((a0.FAlias==([]:Bs)))) then Z46_q a0.FAlias else false) fun x14=>guardO ((((x13&&(((a0.FAlias==([]:Bs)))||x14))&&((a0.FOn==([]:Bs))))&&!(decide (((a0.FSels.l.length:Nat):Int)=(0:Int))))) (addC a1 (1:Int)) (0:Int) fun x15=>guardO ((((x13&&(((a0.FAlias==([]:Bs)))||x14))&&((a0.FOn==([]:Bs))))&&!(decide (((a0.FSels.l.length:Nat):Int)=(0:Int))))) ((r08_selsRight_qn n) a0.FSels x15) false fun x16=>some (((x13&&(((a0.FAlias==([]:Bs)))||x14))&&((a0.FOn==([]:Bs))))&&((decide (((a0.FSels.l.length:Nat):Int)=(0:Int)))||x16))) else(bif (decide (a0.FKind=(2:Int))) then(on (Z70_q a0.FName) fun x20=>some ((((x20&&((a0.FAlias==([]:Bs))))&&((a0.FOn==([]:Bs))))&&(decide (((a0.FArgs.l.length:Nat):Int)=(0:Int))))&&(decide (((a0.FSels.l.length:Nat):Int)=(0:Int))))) else(bif (decide (a0.FKind=(3:Int))) then(on (bif ((((a0.FName==([]:Bs)))&&((a0.FAlias==([]:Bs))))&&!((a0.FOn==([]:Bs)))) then Z46_q a0.FOn else false) fun x24=>guardO ((((((a0.FName==([]:Bs)))&&((a0.FAlias==([]:Bs))))&&(((a0.FOn==([]:Bs)))||x24))&&(decide (((a0.FArgs.l.length:Nat):Int)=(0:Int))))) (addC a1 (1:Int)) (0:Int) fun x25=>guardO ((((((a0.FName==([]:Bs)))&&((a0.FAlias==([]:Bs))))&&(((a0.FOn==([]:Bs)))||x24))&&(decide (((a0.FArgs.l.length:Nat):Int)=(0:Int))))) ((r08_selsRight_qn n) a0.FSels x25) false fun x26=>some ((((((a0.FName==([]:Bs)))&&((a0.FAlias==([]:Bs))))&&(((a0.FOn==([]:Bs)))||x24))&&(decide (((a0.FArgs.l.length:Nat):Int)=(0:Int))))&&x26)) else(some false))))
end
theorem r08_selsRight_qall:∀n:Nat,r08_selsRight_n n=r08_selsRight_qn n/\Z69_n n=Z69_qn n:=by
 intro n;induction n with
 | zero=>exact⟨(by funext a0 a1; first|rfl|(rw [r08_selsRight_n,r08_selsRight_qn])),(by funext a0 a1; first|rfl|(rw [Z69_n,Z69_qn]))⟩
 | succ n ih =>
  refine⟨?_, ?_⟩
  ·funext a0 a1
   refine Qs ?_;rw [r08_selsRight_n,r08_selsRight_qn];try rw [ih.1]
   try rw [ih.2]
   refine Q.condO ?_ ?_
   ·all_goals rfl
   refine Q.wrapOO fun Kb10 hKb10=>?_;refine r08_selsRight_l10_qe  Kb10 ?_ ?_ _ _ ⟨Nat.succ_pos _,by omega⟩
   ·intro n10 s5_11;refine Qe (hKb10 _) ?_;try dsimp only
    refine Q.wrapPO fun Kj7 hKj7=>?_;have hj7:r08_selsRight_j7  =Kj7 ():=by
     refine Qe (hKj7 _) ?_;unfold r08_selsRight_j7;all_goals rfl
    all_goals exact hj7
   intro e10;refine Qe (hKb10 _) ?_;try dsimp only
   all_goals rfl
  funext a0 a1
  refine Qs ?_;rw [Z69_n,Z69_qn];try rw [ih.1]
  try rw [ih.2]
  refine Q.bindO (Z68_eq _) fun x4=>?_;refine Q.guardOO (Z66_eq _) fun x5=>?_;refine Q.condO ?_ ?_
  ·all_goals rfl
  refine Q.condO ?_ ?_
  ·refine Q.bindPO (Z46_eq _) fun x13 hx_x13=>?_;refine Q.guardPO (Z46_eq _) fun x14 hx_x14=>?_;refine Q.guardOO rfl fun x15=>?_;refine Q.guardOO rfl fun x16=>?_;all_goals rfl
  refine Q.condO ?_ ?_
  ·refine Q.bindPO (Z70_eq _) fun x20 hx_x20=>?_;all_goals rfl
  refine Q.condO ?_ ?_
  ·refine Q.guardPO (Z46_eq _) fun x24 hx_x24=>?_;refine Q.guardOO rfl fun x25=>?_;refine Q.guardOO rfl fun x26=>?_;all_goals rfl
  all_goals rfl
def r08_selsRight_q (a0:(Sl TSel)) (a1:Int):Option Bool:=r08_selsRight_qn F0 a0 a1
theorem r08_selsRight_eq (a0:(Sl TSel)) (a1:Int):r08_selsRight a0 a1=r08_selsRight_q a0 a1:=by
 unfold r08_selsRight r08_selsRight_q; rw [(r08_selsRight_qall F0).1]
def Z65_q30 :List TOp->Option (Unit ⊕ Bool)
 | []=>some (Sum.inl ())
 | h30::r30=>on (h30) fun x38=>on (bif (!((decide (x38.FKind<(1:Int)))||(decide ((3:Int)<x38.FKind)))&&(!(x38.FName==([]:Bs)))) then Z46_q x38.FName else false) fun x40=>guardO (!(((decide (x38.FKind<(1:Int)))||(decide ((3:Int)<x38.FKind)))||((!(x38.FName==([]:Bs)))&&(!x40)))) (Z71_q x38.FVars) false fun x41=>guardO (!((((decide (x38.FKind<(1:Int)))||(decide ((3:Int)<x38.FKind)))||((!(x38.FName==([]:Bs)))&&(!x40)))||(!x41))) (r08_selsRight_q x38.FSels (1:Int)) false fun x42=>bif (((((decide (x38.FKind<(1:Int)))||(decide ((3:Int)<x38.FKind)))||((!(x38.FName==([]:Bs)))&&(!x40)))||(!x41))||(!x42)) then(some (Sum.inr false)) else(Z65_q30  (r30) )
theorem Z65_l30_qe {a0:Z8}  (Kb30:(Unit ⊕ Bool)->Option Bool) (hend:∀(n30:Nat) (s4_31:Nat),Z65_j10 a0  =Kb30 (Sum.inl ())) (hret:∀e:Bool,some e=Kb30 (Sum.inr e)):∀(n30:Nat) (s4_31:Nat),(0<n30/\a0.FOps.l.length<s4_31+n30)->Z65_l30 a0 n30 s4_31=Option.bind (Z65_q30  (a0.FOps.l.drop s4_31) ) Kb30:=by
 intro n30;induction n30 with
 | zero=>intro s4_31 hn; exact absurd hn.1 (by omega)
 | succ n30 ih30 =>
  intro s4_31 hn;rw [Z65_l30];by_cases hlt:s4_31<a0.FOps.l.length
  ·obtain⟨h30,hh30⟩:=Qa hlt;rw [Q.drop_of hh30,Z65_q30];refine QT hlt ?_;refine Q.bindPO hh30 fun x38 hx_x38=>?_;refine Q.guardPO (Z46_eq _) fun x40 hx_x40=>?_;refine Q.guardOO (Z71_eq _) fun x41=>?_;refine Q.guardOO (r08_selsRight_eq _ _) fun x42=>?_;refine Q.condO ?_ ?_
   ·all_goals exact hret _
   all_goals exact ih30 _ ⟨by omega,by omega⟩
  rw [dL (by omega),Z65_q30];refine QF hlt ?_;exact hend n30 s4_31
def Z65_q14 :List Z5->Option (Unit ⊕ Bool)
 | []=>some (Sum.inl ())
 | h14::r14=>on (h14) fun x22=>on (Z70_q x22.FName) fun x24=>on (bif !(!x24) then Z46_q x22.FOn else false) fun x25=>guardO (!((!x24)||(!x25))) (r08_selsRight_q x22.FSels (1:Int)) false fun x26=>bif (((!x24)||(!x25))||(!x26)) then(some (Sum.inr false)) else(Z65_q14  (r14) )
theorem Z65_l14_qe {a0:Z8}  (Kb14:(Unit ⊕ Bool)->Option Bool) (hend:∀(n14:Nat) (s6_15:Nat),Z65_j11   =Kb14 (Sum.inl ())) (hret:∀e:Bool,some e=Kb14 (Sum.inr e)):∀(n14:Nat) (s6_15:Nat),(0<n14/\a0.FFrags.l.length<s6_15+n14)->Z65_l14 a0 n14 s6_15=Option.bind (Z65_q14  (a0.FFrags.l.drop s6_15) ) Kb14:=by
 intro n14;induction n14 with
 | zero=>intro s6_15 hn; exact absurd hn.1 (by omega)
 | succ n14 ih14 =>
  intro s6_15 hn;rw [Z65_l14];by_cases hlt:s6_15<a0.FFrags.l.length
  ·obtain⟨h14,hh14⟩:=Qa hlt;rw [Q.drop_of hh14,Z65_q14];refine QT hlt ?_;refine Q.bindPO hh14 fun x22 hx_x22=>?_;refine Q.bindPO (Z70_eq _) fun x24 hx_x24=>?_;refine Q.guardPO (Z46_eq _) fun x25 hx_x25=>?_;refine Q.guardOO (r08_selsRight_eq _ _) fun x26=>?_;refine Q.condO ?_ ?_
   ·all_goals exact hret _
   all_goals exact ih14 _ ⟨by omega,by omega⟩
  rw [dL (by omega),Z65_q14];refine QF hlt ?_;exact hend n14 s6_15
def Z65_q (a0:Z8):Option Bool:=(addC ((a0.FOps.l.length:Nat):Int) ((a0.FFrags.l.length:Nat):Int)).bind fun x5=>bif ((decide (x5<(1:Int)))||(decide ((64:Int)<x5))) then(some false) else(Option.bind (Z65_q30  a0.FOps.l ) fun o30=>match o30 with|Sum.inl _=>(on (()) fun _=>Option.bind (Z65_q14  a0.FFrags.l ) fun o14=>match o14 with|Sum.inl _=>(on (()) fun _=>some true)|Sum.inr e14=>(some e14))|Sum.inr e30=>(some e30))
theorem Z65_eq (a0:Z8):Z65 a0=Z65_q a0:=by
 unfold Z65 Z65_q;refine Qs ?_;refine Q.bindO rfl fun x5=>?_;refine Q.condO ?_ ?_
 ·all_goals rfl
 refine Q.wrapOO fun Kb30 hKb30=>?_;refine Z65_l30_qe  Kb30 ?_ ?_ _ _ ⟨Nat.succ_pos _,by omega⟩
 ·intro n30 s4_31;refine Qe (hKb30 _) ?_;try dsimp only
  refine Q.wrapPO fun Kj10 hKj10=>?_;have hj10:Z65_j10 a0 =Kj10 ():=by
   refine Qe (hKj10 _) ?_;unfold Z65_j10;refine Q.wrapOO fun Kb14 hKb14=>?_;refine Z65_l14_qe  Kb14 ?_ ?_ _ _ ⟨Nat.succ_pos _,by omega⟩
   ·intro n14 s6_15;refine Qe (hKb14 _) ?_;try dsimp only
    refine Q.wrapPO fun Kj11 hKj11=>?_;have hj11:Z65_j11  =Kj11 ():=by
     refine Qe (hKj11 _) ?_;unfold Z65_j11;all_goals rfl
    all_goals exact hj11
   intro e14;refine Qe (hKb14 _) ?_;try dsimp only
   all_goals rfl
  all_goals exact hj10
 intro e30;refine Qe (hKb30 _) ?_;try dsimp only
 all_goals rfl
def Z44_q (a0:TDoc) (a1:Z8):Option Bool:=(Z73_q a0).bind fun x3=>guardO ((!x3)) (Z64_q a1) false fun x4=>guardO (((!x3)&&(!x4))) (Z56_q a0) false fun x5=>guardO ((((!x3)&&(!x4))&&x5)) (Z65_q a1) false fun x6=>some ((((!x3)&&(!x4))&&x5)&&x6)
theorem Z44_eq (a0:TDoc) (a1:Z8):Z44 a0 a1=Z44_q a0 a1:=by
 unfold Z44 Z44_q;refine Qs ?_;refine Q.bindO (Z73_eq _) fun x3=>?_;refine Q.guardOO (Z64_eq _) fun x4=>?_;refine Q.guardOO (Z56_eq _) fun x5=>?_;refine Q.guardOO (Z65_eq _) fun x6=>?_;all_goals rfl
def Z84_q (a0:Z2) (a1:Bool) (a2:Int) (a3:Bs):Option Z2:=bif a1 then((appC 24 a0.Ffaults (⟨false,[(Z3.mk a2 a3)]⟩:Sl Z3)).bind fun x3=>some (Z2.mk a0.Fd x3)) else(some a0)
theorem Z84_eq (a0:Z2) (a1:Bool) (a2:Int) (a3:Bs):Z84 a0 a1 a2 a3=Z84_q a0 a1 a2 a3:=by
 unfold Z84 Z84_q;refine Qs ?_;refine Q.condO ?_ ?_
 ·refine Q.bindO rfl fun x3=>?_;all_goals rfl
 all_goals rfl
def Z112_q12 :List UInt8->Unit ⊕ Bool
 | []=>Sum.inl ()
 | h12::r12=>on (h12) fun x20=>bif (!(((((decide ((97:Int)<=((x20.toNat:Nat):Int)))&&(decide (((x20.toNat:Nat):Int)<=(122:Int))))||((decide ((65:Int)<=((x20.toNat:Nat):Int)))&&(decide (((x20.toNat:Nat):Int)<=(90:Int)))))||((decide ((48:Int)<=((x20.toNat:Nat):Int)))&&(decide (((x20.toNat:Nat):Int)<=(57:Int)))))||(decide (((x20.toNat:Nat):Int)=(95:Int))))) then(Sum.inr false) else(Z112_q12  (r12) )
theorem Z112_l12_qe {a0:Bs}  (Kb12:(Unit ⊕ Bool)->Option Bool) (hend:∀(n12:Nat) (s24_13:Nat),Z112_j8   =Kb12 (Sum.inl ())) (hret:∀e:Bool,some e=Kb12 (Sum.inr e)):∀(n12:Nat) (s24_13:Nat),(0<n12/\a0.length<s24_13+n12)->Z112_l12 a0 n12 s24_13=Kb12 (Z112_q12  (a0.drop s24_13) ):=by
 intro n12;induction n12 with
 | zero=>intro s24_13 hn; exact absurd hn.1 (by omega)
 | succ n12 ih12 =>
  intro s24_13 hn;rw [Z112_l12];by_cases hlt:s24_13<a0.length
  ·obtain⟨h12,hh12⟩:=Qa hlt;rw [Q.drop_of hh12,Z112_q12];refine QT hlt ?_;refine Q.bindP hh12 fun x20 hx_x20=>?_;refine Q.condP ?_ ?_
   ·all_goals exact hret _
   all_goals exact ih12 _ ⟨by omega,by omega⟩
  rw [dL (by omega),Z112_q12];refine QF hlt ?_;exact hend n12 s24_13
def Z112_q (a0:Bs):Option Bool:=guardO (!(((a0==([]:Bs)))||(decide ((64:Int)<((a0.length:Nat):Int))))) (a0[0]?) (0:UInt8) fun x4=>guardO ((!(((a0==([]:Bs)))||(decide ((64:Int)<((a0.length:Nat):Int))))&&(decide ((48:Int)<=((x4.toNat:Nat):Int))))) (a0[0]?) (0:UInt8) fun x5=>bif ((((a0==([]:Bs)))||(decide ((64:Int)<((a0.length:Nat):Int))))||((decide ((48:Int)<=((x4.toNat:Nat):Int)))&&(decide (((x5.toNat:Nat):Int)<=(57:Int))))) then(some false) else(on (Z112_q12  a0 ) fun o12=>match o12 with|Sum.inl _=>(on (()) fun _=>some true)|Sum.inr e12=>(some e12))
theorem Z112_eq (a0:Bs):Z112 a0=Z112_q a0:=by
 unfold Z112 Z112_q;refine Qs ?_;refine Q.guardOO rfl fun x4=>?_;refine Q.guardOO rfl fun x5=>?_;refine Q.condO ?_ ?_
 ·all_goals rfl
 refine Q.wrapPO fun Kb12 hKb12=>?_;refine Z112_l12_qe  Kb12 ?_ ?_ _ _ ⟨Nat.succ_pos _,by omega⟩
 ·intro n12 s24_13;refine Qe (hKb12 _) ?_;try dsimp only
  refine Q.wrapPO fun Kj8 hKj8=>?_;have hj8:Z112_j8  =Kj8 ():=by
   refine Qe (hKj8 _) ?_;unfold Z112_j8;all_goals rfl
  all_goals exact hj8
 intro e12;refine Qe (hKb12 _) ?_;try dsimp only
 all_goals rfl
def Z40_q (a0:Bs) (a1:Bs):Bool:=on (bif (decide (((a1.length:Nat):Int)<=((a0.length:Nat):Int))) then(List.take (a1.length) a0) else([]:Bs)) fun x5=>((decide (((a1.length:Nat):Int)<=((a0.length:Nat):Int)))&&((x5==a1)))
theorem Z40_eq (a0:Bs) (a1:Bs):Z40 a0 a1=some (Z40_q a0 a1):=by
 unfold Z40 Z40_q;refine Q.guardT (fun hc=>Q.cutC_take (by simp at hc; omega)) fun x5 hx_x5=>?_;all_goals rfl
def Z111_q (a0:Bs) (a1:Bs):Bool:=on (Z40_q a0 a1) fun x3=>x3
theorem Z111_eq (a0:Bs) (a1:Bs):Z111 a0 a1=some (Z111_q a0 a1):=by
 unfold Z111 Z111_q;refine Q.bindP (Z40_eq _ _) fun x3 hx_x3=>?_;all_goals rfl
def Z113_q (a0:Bs):Bool:=on (Z111_q a0 ([95,95]:Bs)) fun x3=>x3
theorem Z113_eq (a0:Bs):Z113 a0=some (Z113_q a0):=by
 unfold Z113 Z113_q;refine Q.bindP (Z111_eq _ _) fun x3 hx_x3=>?_;all_goals rfl
def Z83_q (a0:Bs):Bool:=(((((a0==([73,110,116]:Bs)))||((a0==([83,116,114,105,110,103]:Bs))))||((a0==([66,111,111,108,101,97,110]:Bs))))||((a0==([73,68]:Bs))))
theorem Z83_eq (a0:Bs):Z83 a0=some (Z83_q a0):=by
 unfold Z83 Z83_q;all_goals rfl
def Z78_q7 (a1:Bs):List TDef->Unit ⊕ ((TDef×Bool))
 | []=>Sum.inl ()
 | h7::r7=>on (h7) fun x15=>bif ((x15.FName==a1)) then(Sum.inr (x15,true)) else(Z78_q7 a1 (r7) )
theorem Z78_l7_qe {a0:TDoc}{a1:Bs}  (Kb7:(Unit ⊕ ((TDef×Bool)))->Option (TDef×Bool)) (hend:∀(n7:Nat) (s11_8:Nat) (y9_l0:TDef),Z78_j2   y9_l0=Kb7 (Sum.inl ())) (hret:∀e:(TDef×Bool),some e=Kb7 (Sum.inr e)):∀(n7:Nat) (s11_8:Nat) (y9_l0:TDef),(0<n7/\a0.FDefs.l.length<s11_8+n7)->Z78_l7 a0 a1 n7 s11_8 y9_l0=Kb7 (Z78_q7 a1 (a0.FDefs.l.drop s11_8) ):=by
 intro n7;induction n7 with
 | zero=>intro s11_8 y9_l0 hn; exact absurd hn.1 (by omega)
 | succ n7 ih7 =>
  intro s11_8 y9_l0 hn;rw [Z78_l7];by_cases hlt:s11_8<a0.FDefs.l.length
  ·obtain⟨h7,hh7⟩:=Qa hlt;rw [Q.drop_of hh7,Z78_q7];refine QT hlt ?_;refine Q.bindP hh7 fun x15 hx_x15=>?_;refine Q.condP ?_ ?_
   ·all_goals exact hret _
   all_goals exact ih7 _ _ ⟨by omega,by omega⟩
  rw [dL (by omega),Z78_q7];refine QF hlt ?_;exact hend n7 s11_8 y9_l0
def Z78_q (a0:TDoc) (a1:Bs):(TDef×Bool):=on (Z78_q7 a1 a0.FDefs.l ) fun o7=>match o7 with|Sum.inl _=>(on (()) fun _=>((TDef.mk (0:Int) ([]:Bs) (Sl.nil:Sl Bs) (Sl.nil:Sl TDir) (Sl.nil:Sl Z4) (Sl.nil:Sl Z7) (Sl.nil:Sl Z6)),false))|Sum.inr e7=>(e7)
theorem Z78_eq (a0:TDoc) (a1:Bs):Z78 a0 a1=some (Z78_q a0 a1):=by
 unfold Z78 Z78_q;refine Q.wrapPP fun Kb7 hKb7=>?_;refine Z78_l7_qe  Kb7 ?_ ?_ _ _ _ ⟨Nat.succ_pos _,by omega⟩
 ·intro n7 s11_8 y9_l0;refine Qe (hKb7 _) ?_;try dsimp only
  refine Q.wrapPP fun Kj2 hKj2=>?_;have hj2:∀(y3_l0:TDef),Z78_j2  y3_l0=Kj2 ():=by
   intro y3_l0;refine Qe (hKj2 _) ?_;unfold Z78_j2;all_goals rfl
  all_goals exact hj2 _
 intro e7;refine Qe (hKb7 _) ?_;try dsimp only
 all_goals rfl
def Z89_q7 (a1:TDef) (a2:Z2) (k_rec_82:TDef->TDef->Z2->(List Bs)->Option (Bool×(List Bs))):List Z6->(List Bs)->Option (((List Bs)) ⊕ ((Bool×(List Bs))))
 | [],y9_c3=>some (Sum.inl y9_c3)
 | h7::r7,y9_c3=>on (h7) fun x16=>guardO (!(!decide (((x16.FType.FWraps.l.length:Nat):Int)=(1:Int)))) (x16.FType.FWraps.l[0]?) (0:Int) fun x20=>on (fun(y14_c3:(List Bs))=>Z89_q7 a1 a2 k_rec_82 (r7) y14_c3) fun kj13=>bif ((!decide (((x16.FType.FWraps.l.length:Nat):Int)=(1:Int)))||(!decide (x20=(1:Int)))) then(kj13 y9_c3) else(bif ((x16.FType.FName==a1.FName)) then(some (Sum.inr (true,y9_c3))) else(on (Z78_q a2.Fd x16.FType.FName) fun x27=>bif ((x27.2&&(decide (x27.1.FKind=(5:Int))))&&(!(y9_c3.contains x27.1.FName))) then((k_rec_82 x27.1 a1 a2 (insS y9_c3 x27.1.FName)).bind fun x32=>bif x32.1 then(some (Sum.inr (true,x32.2))) else(kj13 x32.2)) else(kj13 y9_c3)))
theorem Z89_l7_qe {a0:TDef}{a1:TDef}{a2:Z2}{k_rec_82:TDef->TDef->Z2->(List Bs)->Option (Bool×(List Bs))}  (Kb7:(((List Bs)) ⊕ ((Bool×(List Bs))))->Option (Bool×(List Bs))) (hend:∀(n7:Nat) (s14_8:Nat) (y9_c3:(List Bs)),Z89_j2   y9_c3=Kb7 (Sum.inl y9_c3)) (hret:∀e:(Bool×(List Bs)),some e=Kb7 (Sum.inr e)):∀(n7:Nat) (s14_8:Nat) (y9_c3:(List Bs)),(0<n7/\a0.FInputs.l.length<s14_8+n7)->Z89_l7 a0 a1 a2 k_rec_82 n7 s14_8 y9_c3=Option.bind (Z89_q7 a1 a2 k_rec_82 (a0.FInputs.l.drop s14_8) y9_c3) Kb7:=by
 intro n7;induction n7 with
 | zero=>intro s14_8 y9_c3 hn; exact absurd hn.1 (by omega)
 | succ n7 ih7 =>
  intro s14_8 y9_c3 hn;rw [Z89_l7];by_cases hlt:s14_8<a0.FInputs.l.length
  ·obtain⟨h7,hh7⟩:=Qa hlt;rw [Q.drop_of hh7,Z89_q7];refine QT hlt ?_;refine Q.bindPO hh7 fun x16 hx_x16=>?_;refine Q.guardOO rfl fun x20=>?_;refine Q.mixO fun kj13 hkj13=>?_;have hj13:∀(y14_c3:(List Bs)),Z89_j13 s14_8 (Z89_l7 a0 a1 a2 k_rec_82 n7) y14_c3=Option.bind (kj13 y14_c3) Kb7:=by
    intro y14_c3;unfold Z89_j13;rw [hkj13];try dsimp only
    all_goals exact ih7 _ _ ⟨by omega,by omega⟩
   refine Q.condO ?_ ?_
   ·all_goals exact hj13 _
   refine Q.condO ?_ ?_
   ·all_goals exact hret _
   refine Q.bindPO (Z78_eq _ _) fun x27 hx_x27=>?_;refine Q.condO ?_ ?_
   ·refine Q.bindO rfl fun x32=>?_;refine Q.condO ?_ ?_
    ·all_goals exact hret _
    all_goals exact hj13 _
   all_goals exact hj13 _
  rw [dL (by omega),Z89_q7];refine QF hlt ?_;exact hend n7 s14_8 y9_c3
def Z89_qn:Nat->TDef->TDef->Z2->(List Bs)->Option (Bool×(List Bs))
 | 0,_,_,_,_=>none
 | n+1,a0,a1,a2,a3=>Option.bind (Z89_q7 a1 a2 (Z89_qn n) a0.FInputs.l a3) fun o7=>match o7 with|Sum.inl y9_c3=>(on (y9_c3) fun y3_c3=>some (false,y3_c3))|Sum.inr e7=>(some e7)
theorem Z89_qall:∀n:Nat,Z89_n n=Z89_qn n:=by
 intro n;induction n with
 | zero=>exact(by funext a0 a1 a2 a3; first|rfl|(rw [Z89_n,Z89_qn]))
 | succ n ih =>
  funext a0 a1 a2 a3
  refine Qs ?_;rw [Z89_n,Z89_qn];try rw [ih]
  refine Q.wrapOO fun Kb7 hKb7=>?_;refine Z89_l7_qe  Kb7 ?_ ?_ _ _ _ ⟨Nat.succ_pos _,by omega⟩
  ·intro n7 s14_8 y9_c3;refine Qe (hKb7 _) ?_;try dsimp only
   refine Q.wrapPO fun Kj2 hKj2=>?_;have hj2:∀(y3_c3:(List Bs)),Z89_j2  y3_c3=Kj2 y3_c3:=by
    intro y3_c3;refine Qe (hKj2 _) ?_;unfold Z89_j2;all_goals rfl
   all_goals exact hj2 _
  intro e7;refine Qe (hKb7 _) ?_;try dsimp only
  all_goals rfl
def Z89_q (a0:TDef) (a1:TDef) (a2:Z2) (a3:(List Bs)):Option (Bool×(List Bs)):=Z89_qn F0 a0 a1 a2 a3
theorem Z89_eq (a0:TDef) (a1:TDef) (a2:Z2) (a3:(List Bs)):Z89 a0 a1 a2 a3=Z89_q a0 a1 a2 a3:=by
 unfold Z89 Z89_q; rw [(Z89_qall F0)]
def Z88_q (a0:Z2) (a1:TDef):Option Bool:=(Z89_q a1 a1 a0 ([]:List Bs)).bind fun x8=>some x8.1
theorem Z88_eq (a0:Z2) (a1:TDef):Z88 a0 a1=Z88_q a0 a1:=by
 unfold Z88 Z88_q;refine Qs ?_;refine Q.bindO (Z89_eq _ _ _ _) fun x8=>?_;all_goals rfl
def Z91_q (a0:Z2) (a1:Bs) (a2:Bs) (a3:(List Bs)):Option (Z2×(List Bs)):=(Z112_q a1).bind fun x2=>on (bif !(!x2) then Z113_q a1 else false) fun x3=>(Z84_q a0 ((!x2)||x3) (6:Int) a2).bind fun x4=>(Z84_q x4 (a3.contains a1) (7:Int) a2).bind fun x6=>some (x6,(insS a3 a1))
theorem Z91_eq (a0:Z2) (a1:Bs) (a2:Bs) (a3:(List Bs)):Z91 a0 a1 a2 a3=Z91_q a0 a1 a2 a3:=by
 unfold Z91 Z91_q;refine Qs ?_;refine Q.bindO (Z112_eq _) fun x2=>?_;refine Q.guardPO (Z113_eq _) fun x3 hx_x3=>?_;refine Q.bindO (Z84_eq _ _ _ _) fun x4=>?_;refine Q.bindO (Z84_eq _ _ _ _) fun x6=>?_;all_goals rfl
def Z93_q (a0:TDoc) (a1:Bs):Int:=on (Z78_q a0 a1) fun x3=>x3.1.FKind
theorem Z93_eq (a0:TDoc) (a1:Bs):Z93 a0 a1=some (Z93_q a0 a1):=by
 unfold Z93 Z93_q;refine Q.bindP (Z78_eq _ _) fun x3 hx_x3=>?_;all_goals rfl
def Z81_q (a0:TDoc) (a1:Bs):Bool:=on (Z83_q a1) fun x3=>on (bif !x3 then Z93_q a0 a1 else(0:Int)) fun x4=>(x3||(decide (x4=(4:Int))))
theorem Z81_eq (a0:TDoc) (a1:Bs):Z81 a0 a1=some (Z81_q a0 a1):=by
 unfold Z81 Z81_q;refine Q.bindP (Z83_eq _) fun x3 hx_x3=>?_;refine Q.guardP (Z93_eq _ _) fun x4 hx_x4=>?_;all_goals rfl
def Z80_q (a0:TDoc) (a1:Bs):Bool:=on (Z81_q a0 a1) fun x3=>on (bif !x3 then Z93_q a0 a1 else(0:Int)) fun x4=>(x3||(decide (x4=(5:Int))))
theorem Z80_eq (a0:TDoc) (a1:Bs):Z80 a0 a1=some (Z80_q a0 a1):=by
 unfold Z80 Z80_q;refine Q.bindP (Z81_eq _ _) fun x3 hx_x3=>?_;refine Q.guardP (Z93_eq _ _) fun x4 hx_x4=>?_;all_goals rfl
def Z92_q (a0:Z2) (a1:Bs) (a2:Bs) (a3:Int):Option Z2:=on (Z78_q a0.Fd a1) fun x2=>on (bif (!x2.2) then Z83_q a1 else false) fun x4=>bif ((!x2.2)&&(!x4)) then((Z84_q a0 true (8:Int) a2).bind fun x6=>some x6) else(bif (decide (a3=(0:Int))) then(on (Z83_q a1) fun x9=>on (bif (!x9) then Z93_q a0.Fd a1 else(0:Int)) fun x10=>(Z84_q a0 ((!x9)&&(decide (x10=(5:Int)))) (10:Int) a2).bind fun x11=>some x11) else(on (Z80_q a0.Fd a1) fun x12=>(Z84_q a0 (!x12) (10:Int) a2).bind fun x13=>some x13))
theorem Z92_eq (a0:Z2) (a1:Bs) (a2:Bs) (a3:Int):Z92 a0 a1 a2 a3=Z92_q a0 a1 a2 a3:=by
 unfold Z92 Z92_q;refine Qs ?_;refine Q.bindPO (Z78_eq _ _) fun x2 hx_x2=>?_;refine Q.guardPO (Z83_eq _) fun x4 hx_x4=>?_;refine Q.condO ?_ ?_
 ·refine Q.bindO (Z84_eq _ _ _ _) fun x6=>?_;all_goals rfl
 refine Q.condO ?_ ?_
 ·refine Q.bindPO (Z83_eq _) fun x9 hx_x9=>?_;refine Q.guardPO (Z93_eq _ _) fun x10 hx_x10=>?_;refine Q.bindO (Z84_eq _ _ _ _) fun x11=>?_;all_goals rfl
 refine Q.bindPO (Z80_eq _ _) fun x12 hx_x12=>?_;refine Q.bindO (Z84_eq _ _ _ _) fun x13=>?_;all_goals rfl
def Z87_q5 (a2:Bs) (a3:Bs):List Z6->Z2->(List Bs)->Option (Z2)
 | [],y7_c0,y8_id12_2=>some y7_c0
 | h5::r5,y7_c0,y8_id12_2=>on (h5) fun x14=>(catC a2 x14.FName).bind fun x16=>(catC x16 a3).bind fun x17=>(Z91_q y7_c0 x14.FName x17 y8_id12_2).bind fun x19=>(Z92_q x19.1 x14.FType.FName x17 (1:Int)).bind fun x20=>Z87_q5 a2 a3 (r5) x20 x19.2
theorem Z87_l5_qe {a1:(Sl Z6)}{a2:Bs}{a3:Bs}  (Kb5:(Z2)->Option Z2) (hend:∀(n5:Nat) (s15_6:Nat) (y7_c0:Z2) (y8_id12_2:(List Bs)),some y7_c0=Kb5 y7_c0):∀(n5:Nat) (s15_6:Nat) (y7_c0:Z2) (y8_id12_2:(List Bs)),(0<n5/\a1.l.length<s15_6+n5)->Z87_l5 a1 a2 a3 n5 s15_6 y7_c0 y8_id12_2=Option.bind (Z87_q5 a2 a3 (a1.l.drop s15_6) y7_c0 y8_id12_2) Kb5:=by
 intro n5;induction n5 with
 | zero=>intro s15_6 y7_c0 y8_id12_2 hn; exact absurd hn.1 (by omega)
 | succ n5 ih5 =>
  intro s15_6 y7_c0 y8_id12_2 hn;rw [Z87_l5];by_cases hlt:s15_6<a1.l.length
  ·obtain⟨h5,hh5⟩:=Qa hlt;rw [Q.drop_of hh5,Z87_q5];refine QT hlt ?_;refine Q.bindPO hh5 fun x14 hx_x14=>?_;refine Q.bindO rfl fun x16=>?_;refine Q.bindO rfl fun x17=>?_;refine Q.bindO (Z91_eq _ _ _ _) fun x19=>?_;refine Q.bindO (Z92_eq _ _ _ _) fun x20=>?_;all_goals exact ih5 _ _ _ ⟨by omega,by omega⟩
  rw [dL (by omega),Z87_q5];refine QF hlt ?_;exact hend n5 s15_6 y7_c0 y8_id12_2
def Z87_q (a0:Z2) (a1:(Sl Z6)) (a2:Bs) (a3:Bs):Option Z2:=Option.bind (Z87_q5 a2 a3 a1.l a0 ([]:List Bs)) fun y7_c0=>some y7_c0
theorem Z87_eq (a0:Z2) (a1:(Sl Z6)) (a2:Bs) (a3:Bs):Z87 a0 a1 a2 a3=Z87_q a0 a1 a2 a3:=by
 unfold Z87 Z87_q;refine Qs ?_;refine Q.wrapOO fun Kb5 hKb5=>?_;refine Z87_l5_qe  Kb5 ?_ _ _ _ _ ⟨Nat.succ_pos _,by omega⟩;intro n5 s15_6 y7_c0 y8_id12_2;refine Qe (hKb5 _) ?_;all_goals rfl
def Z86_q6 (a1:TDef):List Z4->Z2->(List Bs)->Option (Z2)
 | [],y8_c0,y9_id8_3=>some y8_c0
 | h6::r6,y8_c0,y9_id8_3=>on (h6) fun x15=>(catC a1.FName ([46]:Bs)).bind fun x17=>(catC x17 x15.FName).bind fun x18=>(Z91_q y8_c0 x15.FName x18 y9_id8_3).bind fun x20=>(Z92_q x20.1 x15.FType.FName x18 (0:Int)).bind fun x22=>(catC x18 ([40]:Bs)).bind fun x23=>(Z87_q x22 x15.FArgs x23 ([41]:Bs)).bind fun x24=>Z86_q6 a1 (r6) x24 x20.2
theorem Z86_l6_qe {a1:TDef}  (Kb6:(Z2)->Option Z2) (hend:∀(n6:Nat) (s12_7:Nat) (y8_c0:Z2) (y9_id8_3:(List Bs)),some y8_c0=Kb6 y8_c0):∀(n6:Nat) (s12_7:Nat) (y8_c0:Z2) (y9_id8_3:(List Bs)),(0<n6/\a1.FFields.l.length<s12_7+n6)->Z86_l6 a1 n6 s12_7 y8_c0 y9_id8_3=Option.bind (Z86_q6 a1 (a1.FFields.l.drop s12_7) y8_c0 y9_id8_3) Kb6:=by
 intro n6;induction n6 with
 | zero=>intro s12_7 y8_c0 y9_id8_3 hn; exact absurd hn.1 (by omega)
 | succ n6 ih6 =>
  intro s12_7 y8_c0 y9_id8_3 hn;rw [Z86_l6];by_cases hlt:s12_7<a1.FFields.l.length
  ·obtain⟨h6,hh6⟩:=Qa hlt;rw [Q.drop_of hh6,Z86_q6];refine QT hlt ?_;refine Q.bindPO hh6 fun x15 hx_x15=>?_;refine Q.bindO rfl fun x17=>?_;refine Q.bindO rfl fun x18=>?_;refine Q.bindO (Z91_eq _ _ _ _) fun x20=>?_;refine Q.bindO (Z92_eq _ _ _ _) fun x22=>?_;refine Q.bindO rfl fun x23=>?_;refine Q.bindO (Z87_eq _ _ _ _) fun x24=>?_;all_goals exact ih6 _ _ _ ⟨by omega,by omega⟩
  rw [dL (by omega),Z86_q6];refine QF hlt ?_;exact hend n6 s12_7 y8_c0 y9_id8_3
def Z86_q (a0:Z2) (a1:TDef):Option Z2:=Option.bind (Z86_q6 a1 a1.FFields.l a0 ([]:List Bs)) fun y8_c0=>some y8_c0
theorem Z86_eq (a0:Z2) (a1:TDef):Z86 a0 a1=Z86_q a0 a1:=by
 unfold Z86 Z86_q;refine Qs ?_;refine Q.wrapOO fun Kb6 hKb6=>?_;refine Z86_l6_qe  Kb6 ?_ _ _ _ _ ⟨Nat.succ_pos _,by omega⟩;intro n6 s12_7 y8_c0 y9_id8_3;refine Qe (hKb6 _) ?_;all_goals rfl
def Z90_q6 (a1:TDef):List Z7->Z2->(List Bs)->Option (Z2)
 | [],y8_c0,y9_id9_3=>some y8_c0
 | h6::r6,y8_c0,y9_id9_3=>on (h6) fun x15=>(catC a1.FName ([46]:Bs)).bind fun x17=>(catC x17 x15.FName).bind fun x18=>guardO (!((((x15.FName==([116,114,117,101]:Bs)))||((x15.FName==([102,97,108,115,101]:Bs))))||((x15.FName==([110,117,108,108]:Bs))))) (Z112_q x15.FName) false fun x21=>on (bif !(((((x15.FName==([116,114,117,101]:Bs)))||((x15.FName==([102,97,108,115,101]:Bs))))||((x15.FName==([110,117,108,108]:Bs))))||(!x21)) then Z113_q x15.FName else false) fun x22=>(Z84_q y8_c0 ((((((x15.FName==([116,114,117,101]:Bs)))||((x15.FName==([102,97,108,115,101]:Bs))))||((x15.FName==([110,117,108,108]:Bs))))||(!x21))||x22) (6:Int) x18).bind fun x23=>(Z84_q x23 (y9_id9_3.contains x15.FName) (7:Int) x18).bind fun x25=>Z90_q6 a1 (r6) x25 (insS y9_id9_3 x15.FName)
theorem Z90_l6_qe {a1:TDef}  (Kb6:(Z2)->Option Z2) (hend:∀(n6:Nat) (s13_7:Nat) (y8_c0:Z2) (y9_id9_3:(List Bs)),some y8_c0=Kb6 y8_c0):∀(n6:Nat) (s13_7:Nat) (y8_c0:Z2) (y9_id9_3:(List Bs)),(0<n6/\a1.FMembers.l.length<s13_7+n6)->Z90_l6 a1 n6 s13_7 y8_c0 y9_id9_3=Option.bind (Z90_q6 a1 (a1.FMembers.l.drop s13_7) y8_c0 y9_id9_3) Kb6:=by
 intro n6;induction n6 with
 | zero=>intro s13_7 y8_c0 y9_id9_3 hn; exact absurd hn.1 (by omega)
 | succ n6 ih6 =>
  intro s13_7 y8_c0 y9_id9_3 hn;rw [Z90_l6];by_cases hlt:s13_7<a1.FMembers.l.length
  ·obtain⟨h6,hh6⟩:=Qa hlt;rw [Q.drop_of hh6,Z90_q6];refine QT hlt ?_;refine Q.bindPO hh6 fun x15 hx_x15=>?_;refine Q.bindO rfl fun x17=>?_;refine Q.bindO rfl fun x18=>?_;refine Q.guardOO (Z112_eq _) fun x21=>?_;refine Q.guardPO (Z113_eq _) fun x22 hx_x22=>?_;refine Q.bindO (Z84_eq _ _ _ _) fun x23=>?_;refine Q.bindO (Z84_eq _ _ _ _) fun x25=>?_;all_goals exact ih6 _ _ _ ⟨by omega,by omega⟩
  rw [dL (by omega),Z90_q6];refine QF hlt ?_;exact hend n6 s13_7 y8_c0 y9_id9_3
def Z90_q (a0:Z2) (a1:TDef):Option Z2:=Option.bind (Z90_q6 a1 a1.FMembers.l a0 ([]:List Bs)) fun y8_c0=>some y8_c0
theorem Z90_eq (a0:Z2) (a1:TDef):Z90 a0 a1=Z90_q a0 a1:=by
 unfold Z90 Z90_q;refine Qs ?_;refine Q.wrapOO fun Kb6 hKb6=>?_;refine Z90_l6_qe  Kb6 ?_ _ _ _ _ ⟨Nat.succ_pos _,by omega⟩;intro n6 s13_7 y8_c0 y9_id9_3;refine Qe (hKb6 _) ?_;all_goals rfl
end Go.Proofs

namespace Go.Proofs
open Go Go.Ab
def Z85_q (a0:Z2) (a1:Int) (a2:(List Bs)):Option (Z2×(List Bs)):=(idxC a0.Fd.FDefs.l a1).bind fun x2=>(Z112_q x2.FName).bind fun x4=>on (bif !(!x4) then Z113_q x2.FName else false) fun x5=>(Z84_q a0 ((!x4)||x5) (6:Int) x2.FName).bind fun x6=>on (bif !(a2.contains x2.FName) then Z83_q x2.FName else false) fun x8=>(Z84_q x6 ((a2.contains x2.FName)||x8) (7:Int) x2.FName).bind fun x9=>on (bif (decide (x2.FKind=(1:Int))) then((decide (x2.FKind=(1:Int)))) else((decide (x2.FKind=(2:Int))))) fun s48_38=>on (bif s48_38 then((decide (((x2.FFields.l.length:Nat):Int)=(0:Int)))) else(on (bif (decide (x2.FKind=(3:Int))) then((decide (x2.FKind=(3:Int)))) else((decide (x2.FKind=(4:Int))))) fun s55_42=>bif s55_42 then((decide (((x2.FMembers.l.length:Nat):Int)=(0:Int)))) else(bif (decide (x2.FKind=(5:Int))) then((decide (((x2.FInputs.l.length:Nat):Int)=(0:Int)))) else(false)))) fun s7_13=>(Z84_q x9 s7_13 (8:Int) x2.FName).bind fun x15=>(Z84_q x15 (((((((x2.FName==([81,117,101,114,121]:Bs)))||((x2.FName==([77,117,116,97,116,105,111,110]:Bs))))||((x2.FName==([83,117,98,115,99,114,105,112,116,105,111,110]:Bs))))&&(!decide (x2.FKind=(1:Int))))||(decide (x2.FKind<(1:Int))))||(decide ((5:Int)<x2.FKind))) (9:Int) x2.FName).bind fun x18=>guardO ((decide (x2.FKind=(5:Int)))) (Z88_q x18 x2) false fun x20=>(Z84_q x18 ((decide (x2.FKind=(5:Int)))&&x20) (5:Int) x2.FName).bind fun x21=>on (bif (decide (x2.FKind=(1:Int))) then((decide (x2.FKind=(1:Int)))) else((decide (x2.FKind=(2:Int))))) fun s120_24=>bif s120_24 then((Z86_q x21 x2).bind fun x26=>some (x26,(insS a2 x2.FName))) else(bif (decide (x2.FKind=(4:Int))) then((Z90_q x21 x2).bind fun x29=>some (x29,(insS a2 x2.FName))) else(bif (decide (x2.FKind=(5:Int))) then((catC x2.FName ([46]:Bs)).bind fun x32=>(Z87_q x21 x2.FInputs x32 ([]:Bs)).bind fun x33=>some (x33,(insS a2 x2.FName))) else(some (x21,(insS a2 x2.FName)))))
theorem Z85_eq (a0:Z2) (a1:Int) (a2:(List Bs)):Z85 a0 a1 a2=Z85_q a0 a1 a2:=by
 unfold Z85 Z85_q;refine Qs ?_;refine Q.bindO rfl fun x2=>?_;refine Q.bindO (Z112_eq _) fun x4=>?_;refine Q.guardPO (Z113_eq _) fun x5 hx_x5=>?_;refine Q.bindO (Z84_eq _ _ _ _) fun x6=>?_;refine Q.guardPO (Z83_eq _) fun x8 hx_x8=>?_;refine Q.bindO (Z84_eq _ _ _ _) fun x9=>?_;refine Q.wrapPO fun Kj37 hKj37=>?_;have hj37:∀(s48_38:Bool),Z85_j37 a2 x2 x9 s48_38=Kj37 s48_38:=by
  intro s48_38;refine Qe (hKj37 _) ?_;unfold Z85_j37;refine Q.wrapPO fun Kj12 hKj12=>?_;have hj12:∀(s7_13:Bool),Z85_j12 a2 x2 x9 s7_13=Kj12 s7_13:=by
   intro s7_13;refine Qe (hKj12 _) ?_;unfold Z85_j12;refine Q.bindO (Z84_eq _ _ _ _) fun x15=>?_;refine Q.bindO (Z84_eq _ _ _ _) fun x18=>?_;refine Q.guardOO (Z88_eq _ _) fun x20=>?_;refine Q.bindO (Z84_eq _ _ _ _) fun x21=>?_;refine Q.wrapPO fun Kj23 hKj23=>?_;have hj23:∀(s120_24:Bool),Z85_j23 a2 x2 x21 s120_24=Kj23 s120_24:=by
    intro s120_24;refine Qe (hKj23 _) ?_;unfold Z85_j23;refine Q.condO ?_ ?_
    ·refine Q.bindO (Z86_eq _ _) fun x26=>?_;all_goals rfl
    refine Q.condO ?_ ?_
    ·refine Q.bindO (Z90_eq _ _) fun x29=>?_;all_goals rfl
    refine Q.condO ?_ ?_
    ·refine Q.bindO rfl fun x32=>?_;refine Q.bindO (Z87_eq _ _ _ _) fun x33=>?_;all_goals rfl
    all_goals rfl
   refine Q.condP ?_ ?_
   ·all_goals exact hj23 _
   all_goals exact hj23 _
  refine Q.condP ?_ ?_
  ·all_goals exact hj12 _
  refine Q.wrapPP fun Kj41 hKj41=>?_;have hj41:∀(s55_42:Bool),Z85_j41 a2 x2 x9 s55_42=Kj41 s55_42:=by
   intro s55_42;refine Qe (hKj41 _) ?_;unfold Z85_j41;refine Q.condP ?_ ?_
   ·all_goals exact hj12 _
   refine Q.condP ?_ ?_
   ·all_goals exact hj12 _
   all_goals exact hj12 _
  refine Q.condP ?_ ?_
  ·all_goals exact hj41 _
  all_goals exact hj41 _
 refine Q.condP ?_ ?_
 ·all_goals exact hj37 _
 all_goals exact hj37 _
def Z75_q20 :List TDef->Nat->Z2->(List Bs)->Option (Z2)
 | [],s17_21,y22_id12_3,y23_id13_6=>some y22_id12_3
 | h20::r20,s17_21,y22_id12_3,y23_id13_6=>(Z85_q y22_id12_3 ((s17_21:Nat):Int) y23_id13_6).bind fun x29=>Z75_q20  (r20) (s17_21+1) x29.1 x29.2
theorem Z75_l20_qe {a0:TDoc}{a1:Bool}  (Kb20:(Z2)->Option (Sl Z3)) (hend:∀(n20:Nat) (s17_21:Nat) (y22_id12_3:Z2) (y23_id13_6:(List Bs)),Z75_j7 a0 a1  y22_id12_3 y23_id13_6=Kb20 y22_id12_3):∀(n20:Nat) (s17_21:Nat) (y22_id12_3:Z2) (y23_id13_6:(List Bs)),(0<n20/\a0.FDefs.l.length<s17_21+n20)->Z75_l20 a0 a1 n20 s17_21 y22_id12_3 y23_id13_6=Option.bind (Z75_q20  (a0.FDefs.l.drop s17_21) s17_21 y22_id12_3 y23_id13_6) Kb20:=by
 intro n20;induction n20 with
 | zero=>intro s17_21 y22_id12_3 y23_id13_6 hn; exact absurd hn.1 (by omega)
 | succ n20 ih20 =>
  intro s17_21 y22_id12_3 y23_id13_6 hn;rw [Z75_l20];by_cases hlt:s17_21<a0.FDefs.l.length
  ·obtain⟨h20,hh20⟩:=Qa hlt;rw [Q.drop_of hh20,Z75_q20];refine QT hlt ?_;refine Q.bindO (Z85_eq _ _ _) fun x29=>?_;all_goals exact ih20 _ _ _ ⟨by omega,by omega⟩
  rw [dL (by omega),Z75_q20];refine QF hlt ?_;exact hend n20 s17_21 y22_id12_3 y23_id13_6
def Z75_q (a0:TDoc) (a1:Bool):Option (Sl Z3):=Option.bind (Z75_q20  a0.FDefs.l 0 (Z2.mk a0 (Sl.nil:Sl Z3)) ([]:List Bs)) fun y22_id12_3=>on (y22_id12_3) fun y8_id12_3=>on (Z78_q a0 ([81,117,101,114,121]:Bs)) fun x14=>Option.bind (bif (a1&&(!x14.2)) then((Z84_q y8_id12_3 true (30:Int) ([81,117,101,114,121]:Bs)).bind fun x17=>some x17) else(some y8_id12_3)) fun y11_id12_3=>some y11_id12_3.Ffaults
theorem Z75_eq (a0:TDoc) (a1:Bool):Z75 a0 a1=Z75_q a0 a1:=by
 unfold Z75 Z75_q;refine Qs ?_;refine Q.wrapOO fun Kb20 hKb20=>?_;refine Z75_l20_qe  Kb20 ?_ _ _ _ _ ⟨Nat.succ_pos _,by omega⟩;intro n20 s17_21 y22_id12_3 y23_id13_6;refine Qe (hKb20 _) ?_;refine Q.wrapPO fun Kj7 hKj7=>?_;have hj7:∀(y8_id12_3:Z2) (y9_id13_6:(List Bs)),Z75_j7 a0 a1 y8_id12_3 y9_id13_6=Kj7 y8_id12_3:=by
  intro y8_id12_3 y9_id13_6;refine Qe (hKj7 _) ?_;unfold Z75_j7;refine Q.bindPO (Z78_eq _ _) fun x14 hx_x14=>?_;refine Q.wrapOO fun Kj10 hKj10=>?_;have hj10:∀(y11_id12_3:Z2),Z75_j10  y11_id12_3=Kj10 y11_id12_3:=by
   intro y11_id12_3;refine Qe (hKj10 _) ?_;unfold Z75_j10;all_goals rfl
  refine Q.condO ?_ ?_
  ·refine Q.bindO (Z84_eq _ _ _ _) fun x17=>?_;all_goals exact hj10 _
  all_goals exact hj10 _
 all_goals exact hj7 _ _
def Z82_q (a0:Int):Bs:=bif (decide (a0=(1:Int))) then(([81,117,101,114,121]:Bs)) else(bif (decide (a0=(2:Int))) then(([77,117,116,97,116,105,111,110]:Bs)) else(bif (decide (a0=(3:Int))) then(([83,117,98,115,99,114,105,112,116,105,111,110]:Bs)) else(([]:Bs))))
theorem Z82_eq (a0:Int):Z82 a0=some (Z82_q a0):=by
 unfold Z82 Z82_q;refine Q.condP ?_ ?_
 ·all_goals rfl
 refine Q.condP ?_ ?_
 ·all_goals rfl
 refine Q.condP ?_ ?_
 ·all_goals rfl
 all_goals rfl
def Z33_q7 (a1:Bs):List Z5->Unit ⊕ ((Z5×Bool))
 | []=>Sum.inl ()
 | h7::r7=>on (h7) fun x15=>bif ((x15.FName==a1)) then(Sum.inr (x15,true)) else(Z33_q7 a1 (r7) )
theorem Z33_l7_qe {a0:Z8}{a1:Bs}  (Kb7:(Unit ⊕ ((Z5×Bool)))->Option (Z5×Bool)) (hend:∀(n7:Nat) (s11_8:Nat) (y9_l0:Z5),Z33_j2   y9_l0=Kb7 (Sum.inl ())) (hret:∀e:(Z5×Bool),some e=Kb7 (Sum.inr e)):∀(n7:Nat) (s11_8:Nat) (y9_l0:Z5),(0<n7/\a0.FFrags.l.length<s11_8+n7)->Z33_l7 a0 a1 n7 s11_8 y9_l0=Kb7 (Z33_q7 a1 (a0.FFrags.l.drop s11_8) ):=by
 intro n7;induction n7 with
 | zero=>intro s11_8 y9_l0 hn; exact absurd hn.1 (by omega)
 | succ n7 ih7 =>
  intro s11_8 y9_l0 hn;rw [Z33_l7];by_cases hlt:s11_8<a0.FFrags.l.length
  ·obtain⟨h7,hh7⟩:=Qa hlt;rw [Q.drop_of hh7,Z33_q7];refine QT hlt ?_;refine Q.bindP hh7 fun x15 hx_x15=>?_;refine Q.condP ?_ ?_
   ·all_goals exact hret _
   all_goals exact ih7 _ _ ⟨by omega,by omega⟩
  rw [dL (by omega),Z33_q7];refine QF hlt ?_;exact hend n7 s11_8 y9_l0
def Z33_q (a0:Z8) (a1:Bs):(Z5×Bool):=on (Z33_q7 a1 a0.FFrags.l ) fun o7=>match o7 with|Sum.inl _=>(on (()) fun _=>((Z5.mk ([]:Bs) ([]:Bs) (Sl.nil:Sl TSel)),false))|Sum.inr e7=>(e7)
theorem Z33_eq (a0:Z8) (a1:Bs):Z33 a0 a1=some (Z33_q a0 a1):=by
 unfold Z33 Z33_q;refine Q.wrapPP fun Kb7 hKb7=>?_;refine Z33_l7_qe  Kb7 ?_ ?_ _ _ _ ⟨Nat.succ_pos _,by omega⟩
 ·intro n7 s11_8 y9_l0;refine Qe (hKb7 _) ?_;try dsimp only
  refine Q.wrapPP fun Kj2 hKj2=>?_;have hj2:∀(y3_l0:Z5),Z33_j2  y3_l0=Kj2 ():=by
   intro y3_l0;refine Qe (hKj2 _) ?_;unfold Z33_j2;all_goals rfl
  all_goals exact hj2 _
 intro e7;refine Qe (hKb7 _) ?_;try dsimp only
 all_goals rfl
def Z35_q (a0:Z1) (a1:Bool) (a2:Int) (a3:Bs):Option Z1:=bif a1 then((appC 24 a0.Fout (⟨false,[(Z3.mk a2 a3)]⟩:Sl Z3)).bind fun x3=>some (Z1.mk a0.Fd a0.Fq x3)) else(some a0)
theorem Z35_eq (a0:Z1) (a1:Bool) (a2:Int) (a3:Bs):Z35 a0 a1 a2 a3=Z35_q a0 a1 a2 a3:=by
 unfold Z35 Z35_q;refine Qs ?_;refine Q.condO ?_ ?_
 ·refine Q.bindO rfl fun x3=>?_;all_goals rfl
 all_goals rfl
def Z76_q (a0:TDoc) (a1:Bs):Bool:=on (Z93_q a0 a1) fun x3=>on (Z83_q a1) fun x5=>((!x5)&&(((decide (x3=(1:Int)))||(decide (x3=(2:Int))))||(decide (x3=(3:Int)))))
theorem Z76_eq (a0:TDoc) (a1:Bs):Z76 a0 a1=some (Z76_q a0 a1):=by
 unfold Z76 Z76_q;refine Q.bindP (Z93_eq _ _) fun x3 hx_x3=>?_;refine Q.bindP (Z83_eq _) fun x5 hx_x5=>?_;all_goals rfl
def Z109_q6 (a1:Bs):List Bs->Nat->Unit ⊕ Int
 | [],s8_7=>Sum.inl ()
 | h6::r6,s8_7=>on (h6) fun x14=>bif ((a1==x14)) then(Sum.inr ((s8_7:Nat):Int)) else(Z109_q6 a1 (r6) (s8_7+1) )
theorem Z109_l6_qe {a0:(Sl Bs)}{a1:Bs}  (Kb6:(Unit ⊕ Int)->Option Int) (hend:∀(n6:Nat) (s8_7:Nat),Z109_j2   =Kb6 (Sum.inl ())) (hret:∀e:Int,some e=Kb6 (Sum.inr e)):∀(n6:Nat) (s8_7:Nat),(0<n6/\a0.l.length<s8_7+n6)->Z109_l6 a0 a1 n6 s8_7=Kb6 (Z109_q6 a1 (a0.l.drop s8_7) s8_7 ):=by
 intro n6;induction n6 with
 | zero=>intro s8_7 hn; exact absurd hn.1 (by omega)
 | succ n6 ih6 =>
  intro s8_7 hn;rw [Z109_l6];by_cases hlt:s8_7<a0.l.length
  ·obtain⟨h6,hh6⟩:=Qa hlt;rw [Q.drop_of hh6,Z109_q6];refine QT hlt ?_;refine Q.bindP hh6 fun x14 hx_x14=>?_;refine Q.condP ?_ ?_
   ·all_goals exact hret _
   all_goals exact ih6 _ ⟨by omega,by omega⟩
  rw [dL (by omega),Z109_q6];refine QF hlt ?_;exact hend n6 s8_7
def Z109_q (a0:(Sl Bs)) (a1:Bs):Int:=on (Z109_q6 a1 a0.l 0 ) fun o6=>match o6 with|Sum.inl _=>(on (()) fun _=>(-1:Int))|Sum.inr e6=>(e6)
theorem Z109_eq (a0:(Sl Bs)) (a1:Bs):Z109 a0 a1=some (Z109_q a0 a1):=by
 unfold Z109 Z109_q;refine Q.wrapPP fun Kb6 hKb6=>?_;refine Z109_l6_qe  Kb6 ?_ ?_ _ _ ⟨Nat.succ_pos _,by omega⟩
 ·intro n6 s8_7;refine Qe (hKb6 _) ?_;try dsimp only
  refine Q.wrapPP fun Kj2 hKj2=>?_;have hj2:Z109_j2  =Kj2 ():=by
   refine Qe (hKj2 _) ?_;unfold Z109_j2;all_goals rfl
  all_goals exact hj2
 intro e6;refine Qe (hKb6 _) ?_;try dsimp only
 all_goals rfl
def Z102_q (a0:(Sl Bs)) (a1:Bs):Bool:=on (Z109_q a0 a1) fun x3=>(decide ((0:Int)<=x3))
theorem Z102_eq (a0:(Sl Bs)) (a1:Bs):Z102 a0 a1=some (Z102_q a0 a1):=by
 unfold Z102 Z102_q;refine Q.bindP (Z109_eq _ _) fun x3 hx_x3=>?_;all_goals rfl
def Z14_q (a0:TDef) (a1:Bs):Bool:=on (Z102_q a0.FImplements a1) fun x3=>x3
theorem Z14_eq (a0:TDef) (a1:Bs):Z14 a0 a1=some (Z14_q a0 a1):=by
 unfold Z14 Z14_q;refine Q.bindP (Z102_eq _ _) fun x3 hx_x3=>?_;all_goals rfl
def Z13_q (a0:TDoc) (a1:Bs):Option (Sl Bs):=Z13 a0 a1
theorem Z13_eq (a0:TDoc) (a1:Bs):Z13 a0 a1=Z13_q a0 a1:=rfl
def Z108_q6 (a1:(Bs->Bool)):List Bs->Nat->Unit ⊕ Int
 | [],s8_7=>Sum.inl ()
 | h6::r6,s8_7=>on (h6) fun x14=>on (a1 x14) fun x15=>bif x15 then(Sum.inr ((s8_7:Nat):Int)) else(Z108_q6 a1 (r6) (s8_7+1) )
theorem Z108_l6_qe {a0:(Sl Bs)}{a1:(Bs->Bool)}  (Kb6:(Unit ⊕ Int)->Option Int) (hend:∀(n6:Nat) (s8_7:Nat),Z108_j2   =Kb6 (Sum.inl ())) (hret:∀e:Int,some e=Kb6 (Sum.inr e)):∀(n6:Nat) (s8_7:Nat),(0<n6/\a0.l.length<s8_7+n6)->Z108_l6 a0 (fun y0=>some (a1 y0)) n6 s8_7=Kb6 (Z108_q6 a1 (a0.l.drop s8_7) s8_7 ):=by
 intro n6;induction n6 with
 | zero=>intro s8_7 hn; exact absurd hn.1 (by omega)
 | succ n6 ih6 =>
  intro s8_7 hn;rw [Z108_l6];by_cases hlt:s8_7<a0.l.length
  ·obtain⟨h6,hh6⟩:=Qa hlt;rw [Q.drop_of hh6,Z108_q6];refine QT hlt ?_;refine Q.bindP hh6 fun x14 hx_x14=>?_;refine Q.bindP rfl fun x15 hx_x15=>?_;refine Q.condP ?_ ?_
   ·all_goals exact hret _
   all_goals exact ih6 _ ⟨by omega,by omega⟩
  rw [dL (by omega),Z108_q6];refine QF hlt ?_;exact hend n6 s8_7
def Z108_q (a0:(Sl Bs)) (a1:(Bs->Bool)):Int:=on (Z108_q6 a1 a0.l 0 ) fun o6=>match o6 with|Sum.inl _=>(on (()) fun _=>(-1:Int))|Sum.inr e6=>(e6)
theorem Z108_eq (a0:(Sl Bs)) (a1:(Bs->Bool)):Z108 a0 (fun y0=>some (a1 y0))=some (Z108_q a0 a1):=by
 unfold Z108 Z108_q;refine Q.wrapPP fun Kb6 hKb6=>?_;refine Z108_l6_qe  Kb6 ?_ ?_ _ _ ⟨Nat.succ_pos _,by omega⟩
 ·intro n6 s8_7;refine Qe (hKb6 _) ?_;try dsimp only
  refine Q.wrapPP fun Kj2 hKj2=>?_;have hj2:Z108_j2  =Kj2 ():=by
   refine Qe (hKj2 _) ?_;unfold Z108_j2;all_goals rfl
  all_goals exact hj2
 intro e6;refine Qe (hKb6 _) ?_;try dsimp only
 all_goals rfl
def Z101_q (a0:(Sl Bs)) (a1:(Bs->Bool)):Bool:=on (Z108_q a0 a1) fun x3=>(decide ((0:Int)<=x3))
theorem Z101_eq (a0:(Sl Bs)) (a1:(Bs->Bool)):Z101 a0 (fun y0=>some (a1 y0))=some (Z101_q a0 a1):=by
 unfold Z101 Z101_q;refine Q.bindP (Z108_eq _ _) fun x3 hx_x3=>?_;all_goals rfl
def Z12_q (a0:Bs) (a1:(Sl Bs)):Bool:=on (Z102_q a1 a0) fun x3=>x3
theorem Z12_eq (a0:Bs) (a1:(Sl Bs)):Z12 a0 a1=some (Z12_q a0 a1):=by
 unfold Z12 Z12_q;refine Q.bindP (Z102_eq _ _) fun x3 hx_x3=>?_;all_goals rfl
def Z11_q (a0:TDoc) (a1:Bs) (a2:Bs):Option Bool:=(Z13_q a0 a2).bind fun x3=>(Z13_q a0 a1).bind fun x5=>on (Z101_q x5 (fun y0=>Z12_q y0 x3)) fun x6=>some x6
theorem Z11_eq (a0:TDoc) (a1:Bs) (a2:Bs):Z11 a0 a1 a2=Z11_q a0 a1 a2:=by
 unfold Z11 Z11_q;refine Qs ?_;refine Q.bindO (Z13_eq _ _) fun x3=>?_;refine Q.bindO (Z13_eq _ _) fun x5=>?_;refine Q.bindPO (by simp only [Z12_eq,Z101_eq]) fun x6 hx_x6=>?_;all_goals rfl
def Z36_q (a0:Z1) (a1:Bs) (a2:Bs):Option Bool:=on (Z76_q a0.Fd a1) fun x3=>guardO (x3) (Z11_q a0.Fd a1 a2) false fun x4=>some (x3&&(!x4))
theorem Z36_eq (a0:Z1) (a1:Bs) (a2:Bs):Z36 a0 a1 a2=Z36_q a0 a1 a2:=by
 unfold Z36 Z36_q;refine Qs ?_;refine Q.bindPO (Z76_eq _ _) fun x3 hx_x3=>?_;refine Q.guardOO (Z11_eq _ _ _) fun x4=>?_;all_goals rfl
def Z77_q7 (a1:Bs):List Z4->Unit ⊕ ((Z4×Bool))
 | []=>Sum.inl ()
 | h7::r7=>on (h7) fun x15=>bif ((x15.FName==a1)) then(Sum.inr (x15,true)) else(Z77_q7 a1 (r7) )
theorem Z77_l7_qe {a0:TDef}{a1:Bs}  (Kb7:(Unit ⊕ ((Z4×Bool)))->Option (Z4×Bool)) (hend:∀(n7:Nat) (s11_8:Nat) (y9_l0:Z4),Z77_j2   y9_l0=Kb7 (Sum.inl ())) (hret:∀e:(Z4×Bool),some e=Kb7 (Sum.inr e)):∀(n7:Nat) (s11_8:Nat) (y9_l0:Z4),(0<n7/\a0.FFields.l.length<s11_8+n7)->Z77_l7 a0 a1 n7 s11_8 y9_l0=Kb7 (Z77_q7 a1 (a0.FFields.l.drop s11_8) ):=by
 intro n7;induction n7 with
 | zero=>intro s11_8 y9_l0 hn; exact absurd hn.1 (by omega)
 | succ n7 ih7 =>
  intro s11_8 y9_l0 hn;rw [Z77_l7];by_cases hlt:s11_8<a0.FFields.l.length
  ·obtain⟨h7,hh7⟩:=Qa hlt;rw [Q.drop_of hh7,Z77_q7];refine QT hlt ?_;refine Q.bindP hh7 fun x15 hx_x15=>?_;refine Q.condP ?_ ?_
   ·all_goals exact hret _
   all_goals exact ih7 _ _ ⟨by omega,by omega⟩
  rw [dL (by omega),Z77_q7];refine QF hlt ?_;exact hend n7 s11_8 y9_l0
def Z77_q (a0:TDef) (a1:Bs):(Z4×Bool):=on (Z77_q7 a1 a0.FFields.l ) fun o7=>match o7 with|Sum.inl _=>(on (()) fun _=>((Z4.mk ([]:Bs) (Sl.nil:Sl Z6) TRef.zero (Sl.nil:Sl TDir)),false))|Sum.inr e7=>(e7)
theorem Z77_eq (a0:TDef) (a1:Bs):Z77 a0 a1=some (Z77_q a0 a1):=by
 unfold Z77 Z77_q;refine Q.wrapPP fun Kb7 hKb7=>?_;refine Z77_l7_qe  Kb7 ?_ ?_ _ _ _ ⟨Nat.succ_pos _,by omega⟩
 ·intro n7 s11_8 y9_l0;refine Qe (hKb7 _) ?_;try dsimp only
  refine Q.wrapPP fun Kj2 hKj2=>?_;have hj2:∀(y3_l0:Z4),Z77_j2  y3_l0=Kj2 ():=by
   intro y3_l0;refine Qe (hKj2 _) ?_;unfold Z77_j2;all_goals rfl
  all_goals exact hj2 _
 intro e7;refine Qe (hKb7 _) ?_;try dsimp only
 all_goals rfl
def Z37_q3 (a2:Bs) (a3:Bs) (k_rec_22:Z1->(Sl TSel)->Bs->Bs->Option Z1):List TSel->Z1->Option (Z1)
 | [],y5_c0=>some y5_c0
 | h3::r3,y5_c0=>on (h3) fun x12=>Option.bind (bif (decide (x12.FKind=(2:Int))) then(on (Z33_q y5_c0.Fq x12.FName) fun x17=>(Z35_q y5_c0 (!x17.2) (24:Int) a3).bind fun x19=>on (bif x17.2 then Z76_q x19.Fd x17.1.FOn else false) fun x20=>guardO ((x17.2&&x20)) (Z36_q x19 a2 x17.1.FOn) false fun x21=>(Z35_q x19 ((x17.2&&x20)&&x21) (25:Int) a3).bind fun x22=>some x22) else(bif (decide (x12.FKind=(3:Int))) then(Option.bind (bif (!(x12.FOn==([]:Bs))) then(on (Z76_q y5_c0.Fd x12.FOn) fun x34=>(Z35_q y5_c0 (!x34) (24:Int) a3).bind fun x36=>guardO (x34) (Z36_q x36 a2 x12.FOn) false fun x37=>(Z35_q x36 (x34&&x37) (25:Int) a3).bind fun x38=>some (x12.FOn,x38)) else(some (a2,y5_c0))) fun z26=>(k_rec_22 z26.2 x12.FSels z26.1 a3).bind fun x29=>some x29) else(on (bif ((x12.FAlias==([]:Bs))) then(x12.FName) else(x12.FAlias)) fun s14_41=>on (Z78_q y5_c0.Fd a2) fun x48=>on (bif x48.2 then Z76_q y5_c0.Fd a2 else false) fun x50=>on (bif (x48.2&&x50) then(on (Z77_q x48.1 x12.FName) fun x53=>bif x53.2 then(x53.1.FType.FName) else(([]:Bs))) else(([]:Bs))) fun s15_43=>(catC a3 ([47]:Bs)).bind fun x44=>(catC x44 s14_41).bind fun x45=>(k_rec_22 y5_c0 x12.FSels s15_43 x45).bind fun x46=>some x46))) fun y10_c0=>Z37_q3 a2 a3 k_rec_22 (r3) y10_c0
theorem Z37_l3_qe {a1:(Sl TSel)}{a2:Bs}{a3:Bs}{k_rec_22:Z1->(Sl TSel)->Bs->Bs->Option Z1}  (Kb3:(Z1)->Option Z1) (hend:∀(n3:Nat) (s22_4:Nat) (y5_c0:Z1),some y5_c0=Kb3 y5_c0):∀(n3:Nat) (s22_4:Nat) (y5_c0:Z1),(0<n3/\a1.l.length<s22_4+n3)->Z37_l3 a1 a2 a3 k_rec_22 n3 s22_4 y5_c0=Option.bind (Z37_q3 a2 a3 k_rec_22 (a1.l.drop s22_4) y5_c0) Kb3:=by
 intro n3;induction n3 with
 | zero=>intro s22_4 y5_c0 hn; exact absurd hn.1 (by omega)
 | succ n3 ih3 =>
  intro s22_4 y5_c0 hn;rw [Z37_l3];by_cases hlt:s22_4<a1.l.length
  ·obtain⟨h3,hh3⟩:=Qa hlt;rw [Q.drop_of hh3,Z37_q3];refine QT hlt ?_;refine Q.bindPO hh3 fun x12 hx_x12=>?_;refine Q.wrapOO fun Kj9 hKj9=>?_;have hj9:∀(y10_c0:Z1),Z37_j9 s22_4 (Z37_l3 a1 a2 a3 k_rec_22 n3) y10_c0=Kj9 y10_c0:=by
    intro y10_c0;refine Qe (hKj9 _) ?_;unfold Z37_j9;all_goals exact ih3 _ _ ⟨by omega,by omega⟩
   refine Q.condO ?_ ?_
   ·refine Q.bindPO (Z33_eq _ _) fun x17 hx_x17=>?_;refine Q.bindO (Z35_eq _ _ _ _) fun x19=>?_;refine Q.guardPO (Z76_eq _ _) fun x20 hx_x20=>?_;refine Q.guardOO (Z36_eq _ _ _) fun x21=>?_;refine Q.bindO (Z35_eq _ _ _ _) fun x22=>?_;all_goals exact hj9 _
   refine Q.condO ?_ ?_
   ·refine Q.wrapOO fun Kj26 hKj26=>?_;have hj26:∀(s12_27:Bs) (y28_c0:Z1),Z37_j26 a3 s22_4 x12 (Z37_l3 a1 a2 a3 k_rec_22 n3) k_rec_22 s12_27 y28_c0=Kj26 (s12_27,y28_c0):=by
     intro s12_27 y28_c0;refine Qe (hKj26 _) ?_;try dsimp only
     unfold Z37_j26;refine Q.bindO rfl fun x29=>?_;all_goals exact hj9 _
    refine Q.condO ?_ ?_
    ·refine Q.bindPO (Z76_eq _ _) fun x34 hx_x34=>?_;refine Q.bindO (Z35_eq _ _ _ _) fun x36=>?_;refine Q.guardOO (Z36_eq _ _ _) fun x37=>?_;refine Q.bindO (Z35_eq _ _ _ _) fun x38=>?_;all_goals exact hj26 _ _
    all_goals exact hj26 _ _
   refine Q.wrapPO fun Kj40 hKj40=>?_;have hj40:∀(s14_41:Bs),Z37_j40 a2 a3 s22_4 y5_c0 x12 (Z37_l3 a1 a2 a3 k_rec_22 n3) k_rec_22 s14_41=Kj40 s14_41:=by
    intro s14_41;refine Qe (hKj40 _) ?_;unfold Z37_j40;refine Q.bindPO (Z78_eq _ _) fun x48 hx_x48=>?_;refine Q.guardPO (Z76_eq _ _) fun x50 hx_x50=>?_;refine Q.wrapPO fun Kj42 hKj42=>?_;have hj42:∀(s15_43:Bs),Z37_j42 a3 s22_4 y5_c0 x12 s14_41 (Z37_l3 a1 a2 a3 k_rec_22 n3) k_rec_22 s15_43=Kj42 s15_43:=by
     intro s15_43;refine Qe (hKj42 _) ?_;unfold Z37_j42;refine Q.bindO rfl fun x44=>?_;refine Q.bindO rfl fun x45=>?_;refine Q.bindO rfl fun x46=>?_;all_goals exact hj9 _
    refine Q.condP ?_ ?_
    ·refine Q.bindP (Z77_eq _ _) fun x53 hx_x53=>?_;refine Q.condP ?_ ?_
     ·all_goals exact hj42 _
     all_goals exact hj42 _
    all_goals exact hj42 _
   refine Q.condP ?_ ?_
   ·all_goals exact hj40 _
   all_goals exact hj40 _
  rw [dL (by omega),Z37_q3];refine QF hlt ?_;exact hend n3 s22_4 y5_c0
def Z37_qn:Nat->Z1->(Sl TSel)->Bs->Bs->Option Z1
 | 0,_,_,_,_=>none
 | n+1,a0,a1,a2,a3=>Option.bind (Z37_q3 a2 a3 (Z37_qn n) a1.l a0) fun y5_c0=>some y5_c0
theorem Z37_qall:∀n:Nat,Z37_n n=Z37_qn n:=by
 intro n;induction n with
 | zero=>exact(by funext a0 a1 a2 a3; first|rfl|(rw [Z37_n,Z37_qn]))
 | succ n ih =>
  funext a0 a1 a2 a3
  refine Qs ?_;rw [Z37_n,Z37_qn];try rw [ih]
  refine Q.wrapOO fun Kb3 hKb3=>?_;refine Z37_l3_qe  Kb3 ?_ _ _ _ ⟨Nat.succ_pos _,by omega⟩;intro n3 s22_4 y5_c0;refine Qe (hKb3 _) ?_;all_goals rfl
def Z37_q (a0:Z1) (a1:(Sl TSel)) (a2:Bs) (a3:Bs):Option Z1:=Z37_qn F0 a0 a1 a2 a3
theorem Z37_eq (a0:Z1) (a1:(Sl TSel)) (a2:Bs) (a3:Bs):Z37 a0 a1 a2 a3=Z37_q a0 a1 a2 a3:=by
 unfold Z37 Z37_q; rw [(Z37_qall F0)]
def Z39_q9 (a0:Z8) (k_rec_23:Z8->(Sl TSel)->(Sl Bs)->Option ((Sl Bs)×Bool)):List TSel->(Sl Bs)->Bool->Option (((Sl Bs)×Bool))
 | [],s2_10,s8_11=>some (s2_10,s8_11)
 | h9::r9,s2_10,s8_11=>on (h9) fun x20=>Option.bind (on (fun(s2_23:(Sl Bs)) (s8_24:Bool) (s11_25:(Sl TSel))=>(k_rec_23 a0 s11_25 s2_23).bind fun x28=>some (x28.1,(s8_24&&x28.2))) fun kj22=>bif (decide (x20.FKind=(2:Int))) then(on (Z33_q a0 x20.FName) fun x32=>on (bif !(!x32.2) then Z102_q s2_10 x20.FName else false) fun x36=>bif ((!x32.2)||x36) then(some (s2_10,(s8_11&&x32.2))) else((appC 16 s2_10 (⟨false,[x20.FName]⟩:Sl Bs)).bind fun x39=>kj22 x39 (s8_11&&x32.2) x32.1.FSels)) else(kj22 s2_10 s8_11 x20.FSels)) fun z16=>Z39_q9 a0 k_rec_23 (r9) z16.1 z16.2
theorem Z39_l9_qe {a0:Z8}{a1:(Sl TSel)}{k_rec_23:Z8->(Sl TSel)->(Sl Bs)->Option ((Sl Bs)×Bool)}  (Kb9:(((Sl Bs)×Bool))->Option ((Sl Bs)×Bool)) (hend:∀(n9:Nat) (s2_10:(Sl Bs)) (s8_11:Bool) (s17_12:Nat),Z39_j3   s2_10 s8_11=Kb9 (s2_10,s8_11)):∀(n9:Nat) (s2_10:(Sl Bs)) (s8_11:Bool) (s17_12:Nat),(0<n9/\a1.l.length<s17_12+n9)->Z39_l9 a0 a1 k_rec_23 n9 s2_10 s8_11 s17_12=Option.bind (Z39_q9 a0 k_rec_23 (a1.l.drop s17_12) s2_10 s8_11) Kb9:=by
 intro n9;induction n9 with
 | zero=>intro s2_10 s8_11 s17_12 hn; exact absurd hn.1 (by omega)
 | succ n9 ih9 =>
  intro s2_10 s8_11 s17_12 hn;rw [Z39_l9];by_cases hlt:s17_12<a1.l.length
  ·obtain⟨h9,hh9⟩:=Qa hlt;rw [Q.drop_of hh9,Z39_q9];refine QT hlt ?_;refine Q.bindPO hh9 fun x20 hx_x20=>?_;refine Q.wrapOO fun Kj16 hKj16=>?_;have hj16:∀(s2_17:(Sl Bs)) (s8_18:Bool),Z39_j16 s17_12 (Z39_l9 a0 a1 k_rec_23 n9) s2_17 s8_18=Kj16 (s2_17,s8_18):=by
    intro s2_17 s8_18;refine Qe (hKj16 _) ?_;try dsimp only
    unfold Z39_j16;all_goals exact ih9 _ _ _ ⟨by omega,by omega⟩
   refine Q.mixO fun kj22 hkj22=>?_;have hj22:∀(s2_23:(Sl Bs)) (s8_24:Bool) (s11_25:(Sl TSel)),Z39_j22 a0 s17_12 (Z39_l9 a0 a1 k_rec_23 n9) k_rec_23 s2_23 s8_24 s11_25=Option.bind (kj22 s2_23 s8_24 s11_25) Kj16:=by
    intro s2_23 s8_24 s11_25;unfold Z39_j22;rw [hkj22];try dsimp only
    refine Q.bindO rfl fun x28=>?_;all_goals exact hj16 _ _
   refine Q.condO ?_ ?_
   ·refine Q.bindPO (Z33_eq _ _) fun x32 hx_x32=>?_;refine Q.guardPO (Z102_eq _ _) fun x36 hx_x36=>?_;refine Q.condO ?_ ?_
    ·all_goals exact hj16 _ _
    refine Q.bindO rfl fun x39=>?_;all_goals exact hj22 _ _ _
   all_goals exact hj22 _ _ _
  rw [dL (by omega),Z39_q9];refine QF hlt ?_;exact hend n9 s2_10 s8_11 s17_12
def Z39_qn:Nat->Z8->(Sl TSel)->(Sl Bs)->Option ((Sl Bs)×Bool)
 | 0,_,_,_=>none
 | n+1,a0,a1,a2=>Option.bind (Z39_q9 a0 (Z39_qn n) a1.l a2 true) fun z9=>on ((z9.1,z9.2)) fun z3=>some (z3.1,z3.2)
theorem Z39_qall:∀n:Nat,Z39_n n=Z39_qn n:=by
 intro n;induction n with
 | zero=>exact(by funext a0 a1 a2; first|rfl|(rw [Z39_n,Z39_qn]))
 | succ n ih =>
  funext a0 a1 a2
  refine Qs ?_;rw [Z39_n,Z39_qn];try rw [ih]
  refine Q.wrapOO fun Kb9 hKb9=>?_;refine Z39_l9_qe  Kb9 ?_ _ _ _ _ ⟨Nat.succ_pos _,by omega⟩;intro n9 s2_10 s8_11 s17_12;refine Qe (hKb9 _) ?_;try dsimp only
  refine Q.wrapPO fun Kj3 hKj3=>?_;have hj3:∀(s2_4:(Sl Bs)) (s8_5:Bool),Z39_j3  s2_4 s8_5=Kj3 (s2_4,s8_5):=by
   intro s2_4 s8_5;refine Qe (hKj3 _) ?_;try dsimp only
   unfold Z39_j3;all_goals rfl
  all_goals exact hj3 _ _
def Z39_q (a0:Z8) (a1:(Sl TSel)) (a2:(Sl Bs)):Option ((Sl Bs)×Bool):=Z39_qn F0 a0 a1 a2
theorem Z39_eq (a0:Z8) (a1:(Sl TSel)) (a2:(Sl Bs)):Z39 a0 a1 a2=Z39_q a0 a1 a2:=by
 unfold Z39 Z39_q; rw [(Z39_qall F0)]
def Z38_q (a0:Z8) (a1:Z5):Option Bool:=(Z39_q a0 a1.FSels (Sl.nil:Sl Bs)).bind fun x4=>on (Z102_q x4.1 a1.FName) fun x6=>some x6
theorem Z38_eq (a0:Z8) (a1:Z5):Z38 a0 a1=Z38_q a0 a1:=by
 unfold Z38 Z38_q;refine Qs ?_;refine Q.bindO (Z39_eq _ _ _) fun x4=>?_;refine Q.bindPO (Z102_eq _ _) fun x6 hx_x6=>?_;all_goals rfl
def Z32_q55 :List Bs->(List Bs)->(List Bs)
 | [],y57_id19_6=>y57_id19_6
 | h55::r55,y57_id19_6=>on (h55) fun x63=>Z32_q55  (r55) (insS y57_id19_6 x63)
theorem Z32_l55_qe {s23_36:Nat}{x49:Z1}{x52:((Sl Bs)×Bool)}{k_next_35:Nat->Z1->(List Bs)->Option (Sl Z3)}  (Kb55:((List Bs))->Option (Sl Z3)) (hend:∀(n55:Nat) (s45_56:Nat) (y57_id19_6:(List Bs)),Z32_j42 s23_36 k_next_35 x49 y57_id19_6=Kb55 y57_id19_6):∀(n55:Nat) (s45_56:Nat) (y57_id19_6:(List Bs)),(0<n55/\x52.1.l.length<s45_56+n55)->Z32_l55 s23_36 x49 x52 k_next_35 n55 s45_56 y57_id19_6=Kb55 (Z32_q55  (x52.1.l.drop s45_56) y57_id19_6):=by
 intro n55;induction n55 with
 | zero=>intro s45_56 y57_id19_6 hn; exact absurd hn.1 (by omega)
 | succ n55 ih55 =>
  intro s45_56 y57_id19_6 hn;rw [Z32_l55];by_cases hlt:s45_56<x52.1.l.length
  ·obtain⟨h55,hh55⟩:=Qa hlt;rw [Q.drop_of hh55,Z32_q55];refine QT hlt ?_;refine Q.bindP hh55 fun x63 hx_x63=>?_;all_goals exact ih55 _ _ ⟨by omega,by omega⟩
  rw [dL (by omega),Z32_q55];refine QF hlt ?_;exact hend n55 s45_56 y57_id19_6
def Z32_q35 (a1:Z8):List TOp->Z1->(List Bs)->Option ((Z1×(List Bs)))
 | [],y37_id18_3,y38_id19_6=>some (y37_id18_3,y38_id19_6)
 | h35::r35,y37_id18_3,y38_id19_6=>on (h35) fun x46=>on (Z82_q x46.FKind) fun x48=>(Z37_q y37_id18_3 x46.FSels x48 x46.FName).bind fun x49=>(Z39_q a1 x46.FSels (Sl.nil:Sl Bs)).bind fun x52=>on (Z32_q55  x52.1.l y38_id19_6) fun y57_id19_6=>on ((x49,y57_id19_6)) fun z42=>Z32_q35 a1 (r35) z42.1 z42.2
theorem Z32_l35_qe {a0:TDoc}{a1:Z8}  (Kb35:((Z1×(List Bs)))->Option (Sl Z3)) (hend:∀(n35:Nat) (s23_36:Nat) (y37_id18_3:Z1) (y38_id19_6:(List Bs)),Z32_j7 a0 a1  y37_id18_3 y38_id19_6=Kb35 (y37_id18_3,y38_id19_6)):∀(n35:Nat) (s23_36:Nat) (y37_id18_3:Z1) (y38_id19_6:(List Bs)),(0<n35/\a1.FOps.l.length<s23_36+n35)->Z32_l35 a0 a1 n35 s23_36 y37_id18_3 y38_id19_6=Option.bind (Z32_q35 a1 (a1.FOps.l.drop s23_36) y37_id18_3 y38_id19_6) Kb35:=by
 intro n35;induction n35 with
 | zero=>intro s23_36 y37_id18_3 y38_id19_6 hn; exact absurd hn.1 (by omega)
 | succ n35 ih35 =>
  intro s23_36 y37_id18_3 y38_id19_6 hn;rw [Z32_l35];by_cases hlt:s23_36<a1.FOps.l.length
  ·obtain⟨h35,hh35⟩:=Qa hlt;rw [Q.drop_of hh35,Z32_q35];refine QT hlt ?_;refine Q.bindPO hh35 fun x46 hx_x46=>?_;refine Q.bindPO (Z82_eq _) fun x48 hx_x48=>?_;refine Q.bindO (Z37_eq _ _ _ _) fun x49=>?_;refine Q.bindO (Z39_eq _ _ _) fun x52=>?_;refine Q.wrapPO fun Kb55 hKb55=>?_;refine Z32_l55_qe  Kb55 ?_ _ _ _ ⟨Nat.succ_pos _,by omega⟩;intro n55 s45_56 y57_id19_6;refine Qe (hKb55 _) ?_;refine Q.wrapPO fun Kj42 hKj42=>?_
   have hj42:∀(y43_id18_3:Z1) (y44_id19_6:(List Bs)),Z32_j42 s23_36 (Z32_l35 a0 a1 n35) y43_id18_3 y44_id19_6=Kj42 (y43_id18_3,y44_id19_6):=by
    intro y43_id18_3 y44_id19_6;refine Qe (hKj42 _) ?_;try dsimp only
    unfold Z32_j42;all_goals exact ih35 _ _ _ ⟨by omega,by omega⟩
   all_goals exact hj42 _ _
  rw [dL (by omega),Z32_q35];refine QF hlt ?_;exact hend n35 s23_36 y37_id18_3 y38_id19_6
def Z32_q15 (a0:TDoc) (a1:Z8) (y9_id19_6:(List Bs)):List Z5->Z1->Option (Z1)
 | [],y17_id18_3=>some y17_id18_3
 | h15::r15,y17_id18_3=>on (h15) fun x23=>on (Z76_q a0 x23.FOn) fun x25=>(Z35_q y17_id18_3 (!x25) (24:Int) x23.FName).bind fun x26=>(Z38_q a1 x23).bind fun x28=>(Z35_q x26 x28 (24:Int) x23.FName).bind fun x29=>(Z35_q x29 (!(y9_id19_6.contains x23.FName)) (26:Int) x23.FName).bind fun x31=>(Z37_q x31 x23.FSels x23.FOn x23.FName).bind fun x32=>Z32_q15 a0 a1 y9_id19_6 (r15) x32
theorem Z32_l15_qe {a0:TDoc}{a1:Z8}{y9_id19_6:(List Bs)}  (Kb15:(Z1)->Option (Sl Z3)) (hend:∀(n15:Nat) (s56_16:Nat) (y17_id18_3:Z1),Z32_j10   y17_id18_3=Kb15 y17_id18_3):∀(n15:Nat) (s56_16:Nat) (y17_id18_3:Z1),(0<n15/\a1.FFrags.l.length<s56_16+n15)->Z32_l15 a0 a1 y9_id19_6 n15 s56_16 y17_id18_3=Option.bind (Z32_q15 a0 a1 y9_id19_6 (a1.FFrags.l.drop s56_16) y17_id18_3) Kb15:=by
 intro n15;induction n15 with
 | zero=>intro s56_16 y17_id18_3 hn; exact absurd hn.1 (by omega)
 | succ n15 ih15 =>
  intro s56_16 y17_id18_3 hn;rw [Z32_l15];by_cases hlt:s56_16<a1.FFrags.l.length
  ·obtain⟨h15,hh15⟩:=Qa hlt;rw [Q.drop_of hh15,Z32_q15];refine QT hlt ?_;refine Q.bindPO hh15 fun x23 hx_x23=>?_;refine Q.bindPO (Z76_eq _ _) fun x25 hx_x25=>?_;refine Q.bindO (Z35_eq _ _ _ _) fun x26=>?_;refine Q.bindO (Z38_eq _ _) fun x28=>?_;refine Q.bindO (Z35_eq _ _ _ _) fun x29=>?_;refine Q.bindO (Z35_eq _ _ _ _) fun x31=>?_;refine Q.bindO (Z37_eq _ _ _ _) fun x32=>?_;all_goals exact ih15 _ _ ⟨by omega,by omega⟩
  rw [dL (by omega),Z32_q15];refine QF hlt ?_;exact hend n15 s56_16 y17_id18_3
def Z32_q (a0:TDoc) (a1:Z8):Option (Sl Z3):=Option.bind (Z32_q35 a1 a1.FOps.l (Z1.mk a0 a1 (Sl.nil:Sl Z3)) ([]:List Bs)) fun z35=>on ((z35.1,z35.2)) fun z7=>Option.bind (Z32_q15 a0 a1 z7.2 a1.FFrags.l z7.1) fun y17_id18_3=>on (y17_id18_3) fun y11_id18_3=>some y11_id18_3.Fout
theorem Z32_eq (a0:TDoc) (a1:Z8):Z32 a0 a1=Z32_q a0 a1:=by
 unfold Z32 Z32_q;refine Qs ?_;refine Q.wrapOO fun Kb35 hKb35=>?_;refine Z32_l35_qe  Kb35 ?_ _ _ _ _ ⟨Nat.succ_pos _,by omega⟩;intro n35 s23_36 y37_id18_3 y38_id19_6;refine Qe (hKb35 _) ?_;try dsimp only
 refine Q.wrapPO fun Kj7 hKj7=>?_;have hj7:∀(y8_id18_3:Z1) (y9_id19_6:(List Bs)),Z32_j7 a0 a1 y8_id18_3 y9_id19_6=Kj7 (y8_id18_3,y9_id19_6):=by
  intro y8_id18_3 y9_id19_6;refine Qe (hKj7 _) ?_;try dsimp only
  unfold Z32_j7;refine Q.wrapOO fun Kb15 hKb15=>?_;refine Z32_l15_qe  Kb15 ?_ _ _ _ ⟨Nat.succ_pos _,by omega⟩;intro n15 s56_16 y17_id18_3;refine Qe (hKb15 _) ?_;refine Q.wrapPO fun Kj10 hKj10=>?_;have hj10:∀(y11_id18_3:Z1),Z32_j10  y11_id18_3=Kj10 y11_id18_3:=by
   intro y11_id18_3;refine Qe (hKj10 _) ?_;unfold Z32_j10;all_goals rfl
  all_goals exact hj10 _
 all_goals exact hj7 _ _
def Z26_q23 (a0:Z0) (x14:TSel) (k_rec_27:Z0->(Sl TSel)->(List Bs)->(List Bs)->Option ((List Bs)×(List Bs))):List Z5->(List Bs)->(List Bs)->Option (((List Bs)×(List Bs)))
 | [],y25_c2,y26_c3=>some (y25_c2,y26_c3)
 | h23::r23,y25_c2,y26_c3=>on (h23) fun x34=>Option.bind (bif (((x34.FName==x14.FName))&&(!(y26_c3.contains x14.FName))) then((k_rec_27 a0 x34.FSels y25_c2 (insS y26_c3 x14.FName)).bind fun x38=>some (x38.1,x38.2)) else(some (y25_c2,y26_c3))) fun z30=>Z26_q23 a0 x14 k_rec_27 (r23) z30.1 z30.2
theorem Z26_l23_qe {a0:Z0}{s14_4:Nat}{x14:TSel}{k_next_3:Nat->(List Bs)->(List Bs)->Option ((List Bs)×(List Bs))}{k_rec_27:Z0->(Sl TSel)->(List Bs)->(List Bs)->Option ((List Bs)×(List Bs))}  (Kb23:(((List Bs)×(List Bs)))->Option ((List Bs)×(List Bs))) (hend:∀(n23:Nat) (s45_24:Nat) (y25_c2:(List Bs)) (y26_c3:(List Bs)),Z26_j10 s14_4 k_next_3 y25_c2 y26_c3=Kb23 (y25_c2,y26_c3)):∀(n23:Nat) (s45_24:Nat) (y25_c2:(List Bs)) (y26_c3:(List Bs)),(0<n23/\a0.Fq.FFrags.l.length<s45_24+n23)->Z26_l23 a0 s14_4 x14 k_next_3 k_rec_27 n23 s45_24 y25_c2 y26_c3=Option.bind (Z26_q23 a0 x14 k_rec_27 (a0.Fq.FFrags.l.drop s45_24) y25_c2 y26_c3) Kb23:=by
 intro n23;induction n23 with
 | zero=>intro s45_24 y25_c2 y26_c3 hn; exact absurd hn.1 (by omega)
 | succ n23 ih23 =>
  intro s45_24 y25_c2 y26_c3 hn;rw [Z26_l23];by_cases hlt:s45_24<a0.Fq.FFrags.l.length
  ·obtain⟨h23,hh23⟩:=Qa hlt;rw [Q.drop_of hh23,Z26_q23];refine QT hlt ?_;refine Q.bindPO hh23 fun x34 hx_x34=>?_;refine Q.wrapOO fun Kj30 hKj30=>?_;have hj30:∀(y31_c2:(List Bs)) (y32_c3:(List Bs)),Z26_j30 s45_24 (Z26_l23 a0 s14_4 x14 k_next_3 k_rec_27 n23) y31_c2 y32_c3=Kj30 (y31_c2,y32_c3):=by
    intro y31_c2 y32_c3;refine Qe (hKj30 _) ?_;try dsimp only
    unfold Z26_j30;all_goals exact ih23 _ _ _ ⟨by omega,by omega⟩
   refine Q.condO ?_ ?_
   ·refine Q.bindO rfl fun x38=>?_;all_goals exact hj30 _ _
   all_goals exact hj30 _ _
  rw [dL (by omega),Z26_q23];refine QF hlt ?_;exact hend n23 s45_24 y25_c2 y26_c3
def Z26_q3 (a0:Z0) (k_rec_27:Z0->(Sl TSel)->(List Bs)->(List Bs)->Option ((List Bs)×(List Bs))):List TSel->(List Bs)->(List Bs)->Option (((List Bs)×(List Bs)))
 | [],y5_c2,y6_c3=>some (y5_c2,y6_c3)
 | h3::r3,y5_c2,y6_c3=>on (h3) fun x14=>Option.bind (bif (decide (x14.FKind=(3:Int))) then((k_rec_27 a0 x14.FSels y5_c2 y6_c3).bind fun x18=>some (x18.1,x18.2)) else(bif (decide (x14.FKind=(2:Int))) then(Option.bind (Z26_q23 a0 x14 k_rec_27 a0.Fq.FFrags.l y5_c2 y6_c3) fun z23=>some (z23.1,z23.2)) else(bif (!(x14.FAlias==([]:Bs))) then(some ((insS y5_c2 x14.FAlias),y6_c3)) else(some ((insS y5_c2 x14.FName),y6_c3))))) fun z10=>Z26_q3 a0 k_rec_27 (r3) z10.1 z10.2
theorem Z26_l3_qe {a0:Z0}{a1:(Sl TSel)}{k_rec_27:Z0->(Sl TSel)->(List Bs)->(List Bs)->Option ((List Bs)×(List Bs))}  (Kb3:(((List Bs)×(List Bs)))->Option ((List Bs)×(List Bs))) (hend:∀(n3:Nat) (s14_4:Nat) (y5_c2:(List Bs)) (y6_c3:(List Bs)),some (y5_c2,y6_c3)=Kb3 (y5_c2,y6_c3)):∀(n3:Nat) (s14_4:Nat) (y5_c2:(List Bs)) (y6_c3:(List Bs)),(0<n3/\a1.l.length<s14_4+n3)->Z26_l3 a0 a1 k_rec_27 n3 s14_4 y5_c2 y6_c3=Option.bind (Z26_q3 a0 k_rec_27 (a1.l.drop s14_4) y5_c2 y6_c3) Kb3:=by
 intro n3;induction n3 with
 | zero=>intro s14_4 y5_c2 y6_c3 hn; exact absurd hn.1 (by omega)
 | succ n3 ih3 =>
  intro s14_4 y5_c2 y6_c3 hn;rw [Z26_l3];by_cases hlt:s14_4<a1.l.length
  ·obtain⟨h3,hh3⟩:=Qa hlt;rw [Q.drop_of hh3,Z26_q3];refine QT hlt ?_;refine Q.bindPO hh3 fun x14 hx_x14=>?_;refine Q.wrapOO fun Kj10 hKj10=>?_;have hj10:∀(y11_c2:(List Bs)) (y12_c3:(List Bs)),Z26_j10 s14_4 (Z26_l3 a0 a1 k_rec_27 n3) y11_c2 y12_c3=Kj10 (y11_c2,y12_c3):=by
    intro y11_c2 y12_c3;refine Qe (hKj10 _) ?_;try dsimp only
    unfold Z26_j10;all_goals exact ih3 _ _ _ ⟨by omega,by omega⟩
   refine Q.condO ?_ ?_
   ·refine Q.bindO rfl fun x18=>?_;all_goals exact hj10 _ _
   refine Q.condO ?_ ?_
   ·refine Q.wrapOO fun Kb23 hKb23=>?_;refine Z26_l23_qe  Kb23 ?_ _ _ _ _ ⟨Nat.succ_pos _,by omega⟩;intro n23 s45_24 y25_c2 y26_c3;refine Qe (hKb23 _) ?_;try dsimp only
    all_goals exact hj10 _ _
   refine Q.condO ?_ ?_
   ·all_goals exact hj10 _ _
   all_goals exact hj10 _ _
  rw [dL (by omega),Z26_q3];refine QF hlt ?_;exact hend n3 s14_4 y5_c2 y6_c3
def Z26_qn:Nat->Z0->(Sl TSel)->(List Bs)->(List Bs)->Option ((List Bs)×(List Bs))
 | 0,_,_,_,_=>none
 | n+1,a0,a1,a2,a3=>Option.bind (Z26_q3 a0 (Z26_qn n) a1.l a2 a3) fun z3=>some (z3.1,z3.2)
theorem Z26_qall:∀n:Nat,Z26_n n=Z26_qn n:=by
 intro n;induction n with
 | zero=>exact(by funext a0 a1 a2 a3; first|rfl|(rw [Z26_n,Z26_qn]))
 | succ n ih =>
  funext a0 a1 a2 a3
  refine Qs ?_;rw [Z26_n,Z26_qn];try rw [ih]
  refine Q.wrapOO fun Kb3 hKb3=>?_;refine Z26_l3_qe  Kb3 ?_ _ _ _ _ ⟨Nat.succ_pos _,by omega⟩;intro n3 s14_4 y5_c2 y6_c3;refine Qe (hKb3 _) ?_;try dsimp only
  all_goals rfl
def Z26_q (a0:Z0) (a1:(Sl TSel)) (a2:(List Bs)) (a3:(List Bs)):Option ((List Bs)×(List Bs)):=Z26_qn F0 a0 a1 a2 a3
theorem Z26_eq (a0:Z0) (a1:(Sl TSel)) (a2:(List Bs)) (a3:(List Bs)):Z26 a0 a1 a2 a3=Z26_q a0 a1 a2 a3:=by
 unfold Z26 Z26_q; rw [(Z26_qall F0)]
def Z21_q (a0:Z0) (a1:Bool) (a2:Int) (a3:Bs):Option Z0:=bif a1 then((appC 24 a0.Fout (⟨false,[(Z3.mk a2 a3)]⟩:Sl Z3)).bind fun x3=>some (Z0.mk a0.Fd a0.Fq x3)) else(some a0)
theorem Z21_eq (a0:Z0) (a1:Bool) (a2:Int) (a3:Bs):Z21 a0 a1 a2 a3=Z21_q a0 a1 a2 a3:=by
 unfold Z21 Z21_q;refine Qs ?_;refine Q.condO ?_ ?_
 ·refine Q.bindO rfl fun x3=>?_;all_goals rfl
 all_goals rfl
def Z95_q (a0:(Sl Int)):Option (Sl Int):=bif a0.nl then(some (Sl.nil:Sl Int)) else((appC 8 (⟨false,[]⟩:Sl Int) a0).bind fun x7=>some x7)
theorem Z95_eq (a0:(Sl Int)):Z95 a0=Z95_q a0:=by
 unfold Z95 Z95_q;refine Qs ?_;refine Q.condO ?_ ?_
 ·all_goals rfl
 refine Q.bindO rfl fun x7=>?_;all_goals rfl
def Z116_q (a0:TRef):Bool:=on (bif (decide ((0:Int)<((a0.FWraps.l.length:Nat):Int))) then((a0.FWraps.l)[0]?.getD (0:Int)) else(0:Int)) fun x4=>((decide ((0:Int)<((a0.FWraps.l.length:Nat):Int)))&&(decide (x4=(1:Int))))
theorem Z116_eq (a0:TRef):Z116 a0=some (Z116_q a0):=by
 unfold Z116 Z116_q;refine Q.guardT (fun hc=>Q.getD_some (by simp at hc; omega)) fun x4 hx_x4=>?_;all_goals rfl
def Z118_q (a0:TRef):Option TRef:=on (Z116_q a0) fun x4=>bif x4 then((Z95_q a0.FWraps).bind fun x7=>some (TRef.mk a0.FName x7)) else((appC 8 (⟨false,[(1:Int)]⟩:Sl Int) a0.FWraps).bind fun x9=>some (TRef.mk a0.FName x9))
theorem Z118_eq (a0:TRef):Z118 a0=Z118_q a0:=by
 unfold Z118 Z118_q;refine Qs ?_;refine Q.bindPO (Z116_eq _) fun x4 hx_x4=>?_;refine Q.condO ?_ ?_
 ·refine Q.bindO (Z95_eq _) fun x7=>?_;all_goals rfl
 refine Q.bindO rfl fun x9=>?_;all_goals rfl
def Z117_q (a0:Bs):TRef:=(TRef.mk a0 (Sl.nil:Sl Int))
theorem Z117_eq (a0:Bs):Z117 a0=some (Z117_q a0):=by
 unfold Z117 Z117_q;all_goals rfl
def Z29_q (a0:Bs) (a1:Bs):Option Z6:=on (Z117_q a1) fun x3=>(Z118_q x3).bind fun x4=>some (Z6.mk a0 x4 false Z9.zero (Sl.nil:Sl TDir))
theorem Z29_eq (a0:Bs) (a1:Bs):Z29 a0 a1=Z29_q a0 a1:=by
 unfold Z29 Z29_q;refine Qs ?_;refine Q.bindPO (Z117_eq _) fun x3 hx_x3=>?_;refine Q.bindO (Z118_eq _) fun x4=>?_;all_goals rfl
def Z20_q (a0:Bs) (a1:Bool):Option (Sl Z6):=bif (((a0==([115,107,105,112]:Bs)))||((a0==([105,110,99,108,117,100,101]:Bs)))) then((Z29_q ([105,102]:Bs) ([66,111,111,108,101,97,110]:Bs)).bind fun x6=>some (⟨false,[x6]⟩:Sl Z6)) else(bif (((a0==([100,101,102,101,114]:Bs)))&&(!a1)) then((Z29_q ([108,97,98,101,108]:Bs) ([83,116,114,105,110,103]:Bs)).bind fun x10=>some (⟨false,[x10]⟩:Sl Z6)) else(bif (((a0==([115,116,114,101,97,109]:Bs)))&&a1) then((Z29_q ([108,97,98,101,108]:Bs) ([83,116,114,105,110,103]:Bs)).bind fun x14=>(Z29_q ([105,110,105,116,105,97,108,67,111,117,110,116]:Bs) ([73,110,116]:Bs)).bind fun x15=>some (⟨false,[x14,x15]⟩:Sl Z6)) else(some (Sl.nil:Sl Z6))))
theorem Z20_eq (a0:Bs) (a1:Bool):Z20 a0 a1=Z20_q a0 a1:=by
 unfold Z20 Z20_q;refine Qs ?_;refine Q.condO ?_ ?_
 ·refine Q.bindO (Z29_eq _ _) fun x6=>?_;all_goals rfl
 refine Q.condO ?_ ?_
 ·refine Q.bindO (Z29_eq _ _) fun x10=>?_;all_goals rfl
 refine Q.condO ?_ ?_
 ·refine Q.bindO (Z29_eq _ _) fun x14=>?_;refine Q.bindO (Z29_eq _ _) fun x15=>?_;all_goals rfl
 all_goals rfl
def Z119_q (a0:TRef):Option TRef:=on (Z116_q a0) fun x8=>Option.bind (bif x8 then((partC a0.FWraps (some (1:Int)) none).bind fun x10=>some x10) else(some a0.FWraps)) fun s3_4=>(Z95_q s3_4).bind fun x6=>some (TRef.mk a0.FName x6)
theorem Z119_eq (a0:TRef):Z119 a0=Z119_q a0:=by
 unfold Z119 Z119_q;refine Qs ?_;refine Q.bindPO (Z116_eq _) fun x8 hx_x8=>?_;refine Q.wrapOO fun Kj3 hKj3=>?_;have hj3:∀(s3_4:(Sl Int)),Z119_j3 a0 s3_4=Kj3 s3_4:=by
  intro s3_4;refine Qe (hKj3 _) ?_;unfold Z119_j3;refine Q.bindO (Z95_eq _) fun x6=>?_;all_goals rfl
 refine Q.condO ?_ ?_
 ·refine Q.bindO rfl fun x10=>?_;all_goals exact hj3 _
 all_goals exact hj3 _
def Z115_q (a0:TRef):Option Bool:=(Z119_q a0).bind fun x3=>on (bif (decide ((0:Int)<((x3.FWraps.l.length:Nat):Int))) then((x3.FWraps.l)[0]?.getD (0:Int)) else(0:Int)) fun x6=>some ((decide ((0:Int)<((x3.FWraps.l.length:Nat):Int)))&&(decide (x6=(2:Int))))
theorem Z115_eq (a0:TRef):Z115 a0=Z115_q a0:=by
 unfold Z115 Z115_q;refine Qs ?_;refine Q.bindO (Z119_eq _) fun x3=>?_;refine Q.guardTO (fun hc=>Q.getD_some (by simp at hc; omega)) fun x6 hx_x6=>?_;all_goals rfl
end Go.Proofs

namespace Go.Proofs
open Go Go.Ab
def Z105_q6 (a1:(TDir->Bool)):List TDir->Nat->Unit ⊕ Int
 | [],s8_7=>Sum.inl ()
 | h6::r6,s8_7=>on (h6) fun x14=>on (a1 x14) fun x15=>bif x15 then(Sum.inr ((s8_7:Nat):Int)) else(Z105_q6 a1 (r6) (s8_7+1) )
theorem Z105_l6_qe {a0:(Sl TDir)}{a1:(TDir->Bool)}  (Kb6:(Unit ⊕ Int)->Option Int) (hend:∀(n6:Nat) (s8_7:Nat),Z105_j2   =Kb6 (Sum.inl ())) (hret:∀e:Int,some e=Kb6 (Sum.inr e)):∀(n6:Nat) (s8_7:Nat),(0<n6/\a0.l.length<s8_7+n6)->Z105_l6 a0 (fun y0=>some (a1 y0)) n6 s8_7=Kb6 (Z105_q6 a1 (a0.l.drop s8_7) s8_7 ):=by
 intro n6;induction n6 with
 | zero=>intro s8_7 hn; exact absurd hn.1 (by omega)
 | succ n6 ih6 =>
  intro s8_7 hn;rw [Z105_l6];by_cases hlt:s8_7<a0.l.length
  ·obtain⟨h6,hh6⟩:=Qa hlt;rw [Q.drop_of hh6,Z105_q6];refine QT hlt ?_;refine Q.bindP hh6 fun x14 hx_x14=>?_;refine Q.bindP rfl fun x15 hx_x15=>?_;refine Q.condP ?_ ?_
   ·all_goals exact hret _
   all_goals exact ih6 _ ⟨by omega,by omega⟩
  rw [dL (by omega),Z105_q6];refine QF hlt ?_;exact hend n6 s8_7
def Z105_q (a0:(Sl TDir)) (a1:(TDir->Bool)):Int:=on (Z105_q6 a1 a0.l 0 ) fun o6=>match o6 with|Sum.inl _=>(on (()) fun _=>(-1:Int))|Sum.inr e6=>(e6)
theorem Z105_eq (a0:(Sl TDir)) (a1:(TDir->Bool)):Z105 a0 (fun y0=>some (a1 y0))=some (Z105_q a0 a1):=by
 unfold Z105 Z105_q;refine Q.wrapPP fun Kb6 hKb6=>?_;refine Z105_l6_qe  Kb6 ?_ ?_ _ _ ⟨Nat.succ_pos _,by omega⟩
 ·intro n6 s8_7;refine Qe (hKb6 _) ?_;try dsimp only
  refine Q.wrapPP fun Kj2 hKj2=>?_;have hj2:Z105_j2  =Kj2 ():=by
   refine Qe (hKj2 _) ?_;unfold Z105_j2;all_goals rfl
  all_goals exact hj2
 intro e6;refine Qe (hKb6 _) ?_;try dsimp only
 all_goals rfl
def Z98_q (a0:(Sl TDir)) (a1:(TDir->Bool)):Bool:=on (Z105_q a0 a1) fun x3=>(decide ((0:Int)<=x3))
theorem Z98_eq (a0:(Sl TDir)) (a1:(TDir->Bool)):Z98 a0 (fun y0=>some (a1 y0))=some (Z98_q a0 a1):=by
 unfold Z98 Z98_q;refine Q.bindP (Z105_eq _ _) fun x3 hx_x3=>?_;all_goals rfl
def Z23_q (a0:TDir) (a1:TDir):Bool:=((a0.FName==a1.FName))
theorem Z23_eq (a0:TDir) (a1:TDir):Z23 a0 a1=some (Z23_q a0 a1):=by
 unfold Z23 Z23_q;all_goals rfl
def Z79_q7 (a1:Bs):List Z6->Unit ⊕ ((Z6×Bool))
 | []=>Sum.inl ()
 | h7::r7=>on (h7) fun x15=>bif ((x15.FName==a1)) then(Sum.inr (x15,true)) else(Z79_q7 a1 (r7) )
theorem Z79_l7_qe {a0:(Sl Z6)}{a1:Bs}  (Kb7:(Unit ⊕ ((Z6×Bool)))->Option (Z6×Bool)) (hend:∀(n7:Nat) (s10_8:Nat) (y9_l0:Z6),Z79_j2   y9_l0=Kb7 (Sum.inl ())) (hret:∀e:(Z6×Bool),some e=Kb7 (Sum.inr e)):∀(n7:Nat) (s10_8:Nat) (y9_l0:Z6),(0<n7/\a0.l.length<s10_8+n7)->Z79_l7 a0 a1 n7 s10_8 y9_l0=Kb7 (Z79_q7 a1 (a0.l.drop s10_8) ):=by
 intro n7;induction n7 with
 | zero=>intro s10_8 y9_l0 hn; exact absurd hn.1 (by omega)
 | succ n7 ih7 =>
  intro s10_8 y9_l0 hn;rw [Z79_l7];by_cases hlt:s10_8<a0.l.length
  ·obtain⟨h7,hh7⟩:=Qa hlt;rw [Q.drop_of hh7,Z79_q7];refine QT hlt ?_;refine Q.bindP hh7 fun x15 hx_x15=>?_;refine Q.condP ?_ ?_
   ·all_goals exact hret _
   all_goals exact ih7 _ _ ⟨by omega,by omega⟩
  rw [dL (by omega),Z79_q7];refine QF hlt ?_;exact hend n7 s10_8 y9_l0
def Z79_q (a0:(Sl Z6)) (a1:Bs):(Z6×Bool):=on (Z79_q7 a1 a0.l ) fun o7=>match o7 with|Sum.inl _=>(on (()) fun _=>((Z6.mk ([]:Bs) TRef.zero false Z9.zero (Sl.nil:Sl TDir)),false))|Sum.inr e7=>(e7)
theorem Z79_eq (a0:(Sl Z6)) (a1:Bs):Z79 a0 a1=some (Z79_q a0 a1):=by
 unfold Z79 Z79_q;refine Q.wrapPP fun Kb7 hKb7=>?_;refine Z79_l7_qe  Kb7 ?_ ?_ _ _ _ ⟨Nat.succ_pos _,by omega⟩
 ·intro n7 s10_8 y9_l0;refine Qe (hKb7 _) ?_;try dsimp only
  refine Q.wrapPP fun Kj2 hKj2=>?_;have hj2:∀(y3_l0:Z6),Z79_j2  y3_l0=Kj2 ():=by
   intro y3_l0;refine Qe (hKj2 _) ?_;unfold Z79_j2;all_goals rfl
  all_goals exact hj2 _
 intro e7;refine Qe (hKb7 _) ?_;try dsimp only
 all_goals rfl
def Z28_q7 (a1:Bs):List TArg->Unit ⊕ ((Z9×Bool))
 | []=>Sum.inl ()
 | h7::r7=>on (h7) fun x15=>bif ((x15.FName==a1)) then(Sum.inr (x15.FValue,true)) else(Z28_q7 a1 (r7) )
theorem Z28_l7_qe {a0:(Sl TArg)}{a1:Bs}  (Kb7:(Unit ⊕ ((Z9×Bool)))->Option (Z9×Bool)) (hend:∀(n7:Nat) (s10_8:Nat) (y9_l0:Z9),Z28_j2   y9_l0=Kb7 (Sum.inl ())) (hret:∀e:(Z9×Bool),some e=Kb7 (Sum.inr e)):∀(n7:Nat) (s10_8:Nat) (y9_l0:Z9),(0<n7/\a0.l.length<s10_8+n7)->Z28_l7 a0 a1 n7 s10_8 y9_l0=Kb7 (Z28_q7 a1 (a0.l.drop s10_8) ):=by
 intro n7;induction n7 with
 | zero=>intro s10_8 y9_l0 hn; exact absurd hn.1 (by omega)
 | succ n7 ih7 =>
  intro s10_8 y9_l0 hn;rw [Z28_l7];by_cases hlt:s10_8<a0.l.length
  ·obtain⟨h7,hh7⟩:=Qa hlt;rw [Q.drop_of hh7,Z28_q7];refine QT hlt ?_;refine Q.bindP hh7 fun x15 hx_x15=>?_;refine Q.condP ?_ ?_
   ·all_goals exact hret _
   all_goals exact ih7 _ _ ⟨by omega,by omega⟩
  rw [dL (by omega),Z28_q7];refine QF hlt ?_;exact hend n7 s10_8 y9_l0
def Z28_q (a0:(Sl TArg)) (a1:Bs):(Z9×Bool):=on (Z28_q7 a1 a0.l ) fun o7=>match o7 with|Sum.inl _=>(on (()) fun _=>((Z9.mk (0:Int) (0:Int) ([]:Bs) true ([]) (Sl.nil:Sl Bs)),false))|Sum.inr e7=>(e7)
theorem Z28_eq (a0:(Sl TArg)) (a1:Bs):Z28 a0 a1=some (Z28_q a0 a1):=by
 unfold Z28 Z28_q;refine Q.wrapPP fun Kb7 hKb7=>?_;refine Z28_l7_qe  Kb7 ?_ ?_ _ _ _ ⟨Nat.succ_pos _,by omega⟩
 ·intro n7 s10_8 y9_l0;refine Qe (hKb7 _) ?_;try dsimp only
  refine Q.wrapPP fun Kj2 hKj2=>?_;have hj2:∀(y3_l0:Z9),Z28_j2  y3_l0=Kj2 ():=by
   intro y3_l0;refine Qe (hKj2 _) ?_;unfold Z28_j2;all_goals rfl
  all_goals exact hj2 _
 intro e7;refine Qe (hKb7 _) ?_;try dsimp only
 all_goals rfl
def Z114_q (a0:TRef):Option (TRef×Bool):=(Z115_q a0).bind fun x4=>bif (!x4) then(some ((TRef.mk ([]:Bs) (Sl.nil:Sl Int)),false)) else((Z119_q a0).bind fun x8=>(partC x8.FWraps (some (1:Int)) none).bind fun x10=>some ((TRef.mk x8.FName x10),true))
theorem Z114_eq (a0:TRef):Z114 a0=Z114_q a0:=by
 unfold Z114 Z114_q;refine Qs ?_;refine Q.bindO (Z115_eq _) fun x4=>?_;refine Q.condO ?_ ?_
 ·all_goals rfl
 refine Q.bindO (Z119_eq _) fun x8=>?_;refine Q.bindO rfl fun x10=>?_;all_goals rfl
def Z104_q6m (a1:(Z9->Option Bool)):List Z9->Nat->Option (Unit ⊕ Int)
 | [],s8_7=>some (Sum.inl ())
 | h6::r6,s8_7=>on (h6) fun x14=>(a1 x14).bind fun x15=>bif x15 then(some (Sum.inr ((s8_7:Nat):Int))) else(Z104_q6m a1 (r6) (s8_7+1) )
theorem Z104_l6_qem {a0:(Sl Z9)}{a1:(Z9->Option Bool)}  (Kb6:(Unit ⊕ Int)->Option Int) (hend:∀(n6:Nat) (s8_7:Nat),Z104_j2   =Kb6 (Sum.inl ())) (hret:∀e:Int,some e=Kb6 (Sum.inr e)):∀(n6:Nat) (s8_7:Nat),(0<n6/\a0.l.length<s8_7+n6)->Z104_l6 a0 a1 n6 s8_7=Option.bind (Z104_q6m a1 (a0.l.drop s8_7) s8_7 ) Kb6:=by
 intro n6;induction n6 with
 | zero=>intro s8_7 hn; exact absurd hn.1 (by omega)
 | succ n6 ih6 =>
  intro s8_7 hn;rw [Z104_l6];by_cases hlt:s8_7<a0.l.length
  ·obtain⟨h6,hh6⟩:=Qa hlt;rw [Q.drop_of hh6,Z104_q6m];refine QT hlt ?_;refine Q.bindPO hh6 fun x14 hx_x14=>?_;refine Q.bindO rfl fun x15=>?_;refine Q.condO ?_ ?_
   ·all_goals exact hret _
   all_goals exact ih6 _ ⟨by omega,by omega⟩
  rw [dL (by omega),Z104_q6m];refine QF hlt ?_;exact hend n6 s8_7
def Z104_qm (a0:(Sl Z9)) (a1:(Z9->Option Bool)):Option Int:=Option.bind (Z104_q6m a1 a0.l 0 ) fun o6=>match o6 with|Sum.inl _=>(on (()) fun _=>some (-1:Int))|Sum.inr e6=>(some e6)
theorem Z104_eqm (a0:(Sl Z9)) (a1:(Z9->Option Bool)):Z104 a0 a1=Z104_qm a0 a1:=by
 unfold Z104 Z104_qm;refine Qs ?_;refine Q.wrapOO fun Kb6 hKb6=>?_;refine Z104_l6_qem  Kb6 ?_ ?_ _ _ ⟨Nat.succ_pos _,by omega⟩
 ·intro n6 s8_7;refine Qe (hKb6 _) ?_;try dsimp only
  refine Q.wrapPO fun Kj2 hKj2=>?_;have hj2:Z104_j2  =Kj2 ():=by
   refine Qe (hKj2 _) ?_;unfold Z104_j2;all_goals rfl
  all_goals exact hj2
 intro e6;refine Qe (hKb6 _) ?_;try dsimp only
 all_goals rfl
def Z97_qm (a0:(Sl Z9)) (a1:(Z9->Option Bool)):Option Bool:=(Z104_qm a0 a1).bind fun x3=>some (decide ((0:Int)<=x3))
theorem Z97_eqm (a0:(Sl Z9)) (a1:(Z9->Option Bool)):Z97 a0 a1=Z97_qm a0 a1:=by
 unfold Z97 Z97_qm;refine Qs ?_;refine Q.bindO (by simp only [Z104_eqm]) fun x3=>?_;all_goals rfl
def Z106_q6 (a1:(Z7->Bool)):List Z7->Nat->Unit ⊕ Int
 | [],s8_7=>Sum.inl ()
 | h6::r6,s8_7=>on (h6) fun x14=>on (a1 x14) fun x15=>bif x15 then(Sum.inr ((s8_7:Nat):Int)) else(Z106_q6 a1 (r6) (s8_7+1) )
theorem Z106_l6_qe {a0:(Sl Z7)}{a1:(Z7->Bool)}  (Kb6:(Unit ⊕ Int)->Option Int) (hend:∀(n6:Nat) (s8_7:Nat),Z106_j2   =Kb6 (Sum.inl ())) (hret:∀e:Int,some e=Kb6 (Sum.inr e)):∀(n6:Nat) (s8_7:Nat),(0<n6/\a0.l.length<s8_7+n6)->Z106_l6 a0 (fun y0=>some (a1 y0)) n6 s8_7=Kb6 (Z106_q6 a1 (a0.l.drop s8_7) s8_7 ):=by
 intro n6;induction n6 with
 | zero=>intro s8_7 hn; exact absurd hn.1 (by omega)
 | succ n6 ih6 =>
  intro s8_7 hn;rw [Z106_l6];by_cases hlt:s8_7<a0.l.length
  ·obtain⟨h6,hh6⟩:=Qa hlt;rw [Q.drop_of hh6,Z106_q6];refine QT hlt ?_;refine Q.bindP hh6 fun x14 hx_x14=>?_;refine Q.bindP rfl fun x15 hx_x15=>?_;refine Q.condP ?_ ?_
   ·all_goals exact hret _
   all_goals exact ih6 _ ⟨by omega,by omega⟩
  rw [dL (by omega),Z106_q6];refine QF hlt ?_;exact hend n6 s8_7
def Z106_q (a0:(Sl Z7)) (a1:(Z7->Bool)):Int:=on (Z106_q6 a1 a0.l 0 ) fun o6=>match o6 with|Sum.inl _=>(on (()) fun _=>(-1:Int))|Sum.inr e6=>(e6)
theorem Z106_eq (a0:(Sl Z7)) (a1:(Z7->Bool)):Z106 a0 (fun y0=>some (a1 y0))=some (Z106_q a0 a1):=by
 unfold Z106 Z106_q;refine Q.wrapPP fun Kb6 hKb6=>?_;refine Z106_l6_qe  Kb6 ?_ ?_ _ _ ⟨Nat.succ_pos _,by omega⟩
 ·intro n6 s8_7;refine Qe (hKb6 _) ?_;try dsimp only
  refine Q.wrapPP fun Kj2 hKj2=>?_;have hj2:Z106_j2  =Kj2 ():=by
   refine Qe (hKj2 _) ?_;unfold Z106_j2;all_goals rfl
  all_goals exact hj2
 intro e6;refine Qe (hKb6 _) ?_;try dsimp only
 all_goals rfl
def Z99_q (a0:(Sl Z7)) (a1:(Z7->Bool)):Bool:=on (Z106_q a0 a1) fun x3=>(decide ((0:Int)<=x3))
theorem Z99_eq (a0:(Sl Z7)) (a1:(Z7->Bool)):Z99 a0 (fun y0=>some (a1 y0))=some (Z99_q a0 a1):=by
 unfold Z99 Z99_q;refine Q.bindP (Z106_eq _ _) fun x3 hx_x3=>?_;all_goals rfl
def Z27_q (a0:Z7) (a1:Z9):Bool:=((a0.FName==a1.FText))
theorem Z27_eq (a0:Z7) (a1:Z9):Z27 a0 a1=some (Z27_q a0 a1):=by
 unfold Z27 Z27_q;all_goals rfl
def Z107_q6 (a1:(Z6->Bool)):List Z6->Nat->Unit ⊕ Int
 | [],s8_7=>Sum.inl ()
 | h6::r6,s8_7=>on (h6) fun x14=>on (a1 x14) fun x15=>bif x15 then(Sum.inr ((s8_7:Nat):Int)) else(Z107_q6 a1 (r6) (s8_7+1) )
theorem Z107_l6_qe {a0:(Sl Z6)}{a1:(Z6->Bool)}  (Kb6:(Unit ⊕ Int)->Option Int) (hend:∀(n6:Nat) (s8_7:Nat),Z107_j2   =Kb6 (Sum.inl ())) (hret:∀e:Int,some e=Kb6 (Sum.inr e)):∀(n6:Nat) (s8_7:Nat),(0<n6/\a0.l.length<s8_7+n6)->Z107_l6 a0 (fun y0=>some (a1 y0)) n6 s8_7=Kb6 (Z107_q6 a1 (a0.l.drop s8_7) s8_7 ):=by
 intro n6;induction n6 with
 | zero=>intro s8_7 hn; exact absurd hn.1 (by omega)
 | succ n6 ih6 =>
  intro s8_7 hn;rw [Z107_l6];by_cases hlt:s8_7<a0.l.length
  ·obtain⟨h6,hh6⟩:=Qa hlt;rw [Q.drop_of hh6,Z107_q6];refine QT hlt ?_;refine Q.bindP hh6 fun x14 hx_x14=>?_;refine Q.bindP rfl fun x15 hx_x15=>?_;refine Q.condP ?_ ?_
   ·all_goals exact hret _
   all_goals exact ih6 _ ⟨by omega,by omega⟩
  rw [dL (by omega),Z107_q6];refine QF hlt ?_;exact hend n6 s8_7
def Z107_q (a0:(Sl Z6)) (a1:(Z6->Bool)):Int:=on (Z107_q6 a1 a0.l 0 ) fun o6=>match o6 with|Sum.inl _=>(on (()) fun _=>(-1:Int))|Sum.inr e6=>(e6)
theorem Z107_eq (a0:(Sl Z6)) (a1:(Z6->Bool)):Z107 a0 (fun y0=>some (a1 y0))=some (Z107_q a0 a1):=by
 unfold Z107 Z107_q;refine Q.wrapPP fun Kb6 hKb6=>?_;refine Z107_l6_qe  Kb6 ?_ ?_ _ _ ⟨Nat.succ_pos _,by omega⟩
 ·intro n6 s8_7;refine Qe (hKb6 _) ?_;try dsimp only
  refine Q.wrapPP fun Kj2 hKj2=>?_;have hj2:Z107_j2  =Kj2 ():=by
   refine Qe (hKj2 _) ?_;unfold Z107_j2;all_goals rfl
  all_goals exact hj2
 intro e6;refine Qe (hKb6 _) ?_;try dsimp only
 all_goals rfl
def Z100_q (a0:(Sl Z6)) (a1:(Z6->Bool)):Bool:=on (Z107_q a0 a1) fun x3=>(decide ((0:Int)<=x3))
theorem Z100_eq (a0:(Sl Z6)) (a1:(Z6->Bool)):Z100 a0 (fun y0=>some (a1 y0))=some (Z100_q a0 a1):=by
 unfold Z100 Z100_q;refine Q.bindP (Z107_eq _ _) fun x3 hx_x3=>?_;all_goals rfl
def Z31_q (a0:Z6) (a1:Z9):Bool:=on (Z116_q a0.FType) fun x3=>on (bif (x3&&(!a0.FHas)) then Z102_q a1.FKeys a0.FName else false) fun x4=>((x3&&(!a0.FHas))&&(!x4))
theorem Z31_eq (a0:Z6) (a1:Z9):Z31 a0 a1=some (Z31_q a0 a1):=by
 unfold Z31 Z31_q;refine Q.bindP (Z116_eq _) fun x3 hx_x3=>?_;refine Q.guardP (Z102_eq _ _) fun x4 hx_x4=>?_;all_goals rfl
def Z30_q7 (a0:TDoc) (a1:TDef) (a2:Z9) (k_rec_113:TDoc->TRef->Z9->Option Bool):List Bs->Nat->Option (Unit ⊕ Bool)
 | [],s14_8=>some (Sum.inl ())
 | h7::r7,s14_8=>on (h7) fun x14=>on (Z79_q a1.FInputs x14) fun x16=>guardO (!((!x16.2)||(decide (((a2.FItems.l.length:Nat):Int)<=((s14_8:Nat):Int))))) (a2.FItems.l[s14_8]?) Z9.zero fun x18=>guardO (!((!x16.2)||(decide (((a2.FItems.l.length:Nat):Int)<=((s14_8:Nat):Int))))) (k_rec_113 a0 x16.1.FType x18) false fun x19=>bif (((!x16.2)||(decide (((a2.FItems.l.length:Nat):Int)<=((s14_8:Nat):Int))))||(!x19)) then(some (Sum.inr false)) else(Z30_q7 a0 a1 a2 k_rec_113 (r7) (s14_8+1) )
theorem Z30_l7_qe {a0:TDoc}{a1:TDef}{a2:Z9}{k_rec_113:TDoc->TRef->Z9->Option Bool}  (Kb7:(Unit ⊕ Bool)->Option Bool) (hend:∀(n7:Nat) (s14_8:Nat),Z30_j2 a1 a2  =Kb7 (Sum.inl ())) (hret:∀e:Bool,some e=Kb7 (Sum.inr e)):∀(n7:Nat) (s14_8:Nat),(0<n7/\a2.FKeys.l.length<s14_8+n7)->Z30_l7 a0 a1 a2 k_rec_113 n7 s14_8=Option.bind (Z30_q7 a0 a1 a2 k_rec_113 (a2.FKeys.l.drop s14_8) s14_8 ) Kb7:=by
 intro n7;induction n7 with
 | zero=>intro s14_8 hn; exact absurd hn.1 (by omega)
 | succ n7 ih7 =>
  intro s14_8 hn;rw [Z30_l7];by_cases hlt:s14_8<a2.FKeys.l.length
  ·obtain⟨h7,hh7⟩:=Qa hlt;rw [Q.drop_of hh7,Z30_q7];refine QT hlt ?_;refine Q.bindPO hh7 fun x14 hx_x14=>?_;refine Q.bindPO (Z79_eq _ _) fun x16 hx_x16=>?_;refine Q.guardOO rfl fun x18=>?_;refine Q.guardOO rfl fun x19=>?_;refine Q.condO ?_ ?_
   ·all_goals exact hret _
   all_goals exact ih7 _ ⟨by omega,by omega⟩
  rw [dL (by omega),Z30_q7];refine QF hlt ?_;exact hend n7 s14_8
mutual
def fields_fits_qn:Nat->TDoc->TRef->Z9->Option Bool
 | 0,_,_,_=>none
 | n+1,a0,a1,a2=>bif (decide (a2.FKind=(7:Int))) then(some true) else(on (Z80_q a0 a1.FName) fun x7=>bif (!x7) then(some false) else(bif (decide (a2.FKind=(0:Int))) then(on (Z116_q a1) fun x13=>some (!x13)) else((Z114_q a1).bind fun x16=>bif x16.2 then(bif (!decide (a2.FKind=(5:Int))) then(((fields_fits_qn n) a0 x16.1 a2).bind fun x23=>some x23) else((Z97_qm a2.FItems (fun y0=>(fields_fits_1_qn n) y0 a0 x16.1)).bind fun x25=>some (!x25))) else(bif ((a1.FName==([73,110,116]:Bs))) then(some (((decide (a2.FKind=(2:Int)))&&(decide ((-2147483648:Int)<=a2.FInt)))&&(decide (a2.FInt<(2147483648:Int))))) else(bif ((a1.FName==([83,116,114,105,110,103]:Bs))) then(some (decide (a2.FKind=(3:Int)))) else(bif ((a1.FName==([66,111,111,108,101,97,110]:Bs))) then(some (decide (a2.FKind=(1:Int)))) else(bif ((a1.FName==([73,68]:Bs))) then(some ((decide (a2.FKind=(3:Int)))||(decide (a2.FKind=(2:Int))))) else(on (Z78_q a0 a1.FName) fun x41=>bif (decide (x41.1.FKind=(4:Int))) then(on (bif (decide (a2.FKind=(4:Int))) then Z99_q x41.1.FMembers (fun y0=>Z27_q y0 a2) else false) fun x46=>some ((decide (a2.FKind=(4:Int)))&&x46)) else(guardO ((decide (a2.FKind=(6:Int)))) ((Z30_qn n) a0 x41.1 a2) false fun x48=>some ((decide (a2.FKind=(6:Int)))&&x48))))))))))
def fields_fits_1_qn:Nat->Z9->TDoc->TRef->Option Bool
 | 0,_,_,_=>none
 | n+1,a0,a1,a2=>((fields_fits_qn n) a1 a2 a0).bind fun x3=>some (!x3)
def Z30_qn:Nat->TDoc->TDef->Z9->Option Bool
 | 0,_,_,_=>none
 | n+1,a0,a1,a2=>Option.bind (Z30_q7 a0 a1 a2 (fields_fits_qn n) a2.FKeys.l 0 ) fun o7=>match o7 with|Sum.inl _=>(on (()) fun _=>on (Z100_q a1.FInputs (fun y0=>Z31_q y0 a2)) fun x4=>some (!x4))|Sum.inr e7=>(some e7)
end
theorem fields_fits_qall:∀n:Nat,fields_fits_n n=fields_fits_qn n/\fields_fits_1_n n=fields_fits_1_qn n/\Z30_n n=Z30_qn n:=by
 intro n;induction n with
 | zero=>exact⟨(by funext a0 a1 a2; first|rfl|(rw [fields_fits_n,fields_fits_qn])),(by funext a0 a1 a2; first|rfl|(rw [fields_fits_1_n,fields_fits_1_qn])),(by funext a0 a1 a2; first|rfl|(rw [Z30_n,Z30_qn]))⟩
 | succ n ih =>
  refine⟨?_, ?_, ?_⟩
  ·funext a0 a1 a2
   refine Qs ?_;rw [fields_fits_n,fields_fits_qn];try rw [ih.1]
   try rw [ih.2.1]
   try rw [ih.2.2]
   refine Q.condO ?_ ?_
   ·all_goals rfl
   refine Q.bindPO (Z80_eq _ _) fun x7 hx_x7=>?_;refine Q.condO ?_ ?_
   ·all_goals rfl
   refine Q.condO ?_ ?_
   ·refine Q.bindPO (Z116_eq _) fun x13 hx_x13=>?_;all_goals rfl
   refine Q.bindO (Z114_eq _) fun x16=>?_;refine Q.condO ?_ ?_
   ·refine Q.condO ?_ ?_
    ·refine Q.bindO rfl fun x23=>?_;all_goals rfl
    refine Q.bindO (by simp only [Z97_eqm]) fun x25=>?_;all_goals rfl
   refine Q.condO ?_ ?_
   ·all_goals rfl
   refine Q.condO ?_ ?_
   ·all_goals rfl
   refine Q.condO ?_ ?_
   ·all_goals rfl
   refine Q.condO ?_ ?_
   ·all_goals rfl
   refine Q.bindPO (Z78_eq _ _) fun x41 hx_x41=>?_;refine Q.condO ?_ ?_
   ·refine Q.guardPO (by simp only [Z27_eq,Z99_eq]) fun x46 hx_x46=>?_;all_goals rfl
   refine Q.guardOO rfl fun x48=>?_;all_goals rfl
  ·funext a0 a1 a2
   refine Qs ?_;rw [fields_fits_1_n,fields_fits_1_qn];try rw [ih.1]
   try rw [ih.2.1]
   try rw [ih.2.2]
   refine Q.bindO rfl fun x3=>?_;all_goals rfl
  funext a0 a1 a2
  refine Qs ?_;rw [Z30_n,Z30_qn];try rw [ih.1]
  try rw [ih.2.1]
  try rw [ih.2.2]
  refine Q.wrapOO fun Kb7 hKb7=>?_;refine Z30_l7_qe  Kb7 ?_ ?_ _ _ ⟨Nat.succ_pos _,by omega⟩
  ·intro n7 s14_8;refine Qe (hKb7 _) ?_;try dsimp only
   refine Q.wrapPO fun Kj2 hKj2=>?_;have hj2:Z30_j2 a1 a2 =Kj2 ():=by
    refine Qe (hKj2 _) ?_;unfold Z30_j2;refine Q.bindPO (by simp only [Z31_eq,Z100_eq]) fun x4 hx_x4=>?_;all_goals rfl
   all_goals exact hj2
  intro e7;refine Qe (hKb7 _) ?_;try dsimp only
  all_goals rfl
def fields_fits_q (a0:TDoc) (a1:TRef) (a2:Z9):Option Bool:=fields_fits_qn F0 a0 a1 a2
theorem fields_fits_eq (a0:TDoc) (a1:TRef) (a2:Z9):fields_fits a0 a1 a2=fields_fits_q a0 a1 a2:=by
 unfold fields_fits fields_fits_q; rw [(fields_fits_qall F0).1]
def Z25_q3 (a1:(Sl Z6)) (a2:(Sl TArg)) (a3:Bool) (a4:Bs):List TArg->Nat->Z0->Option (Z0)
 | [],s20_4,y5_c0=>some y5_c0
 | h3::r3,s20_4,y5_c0=>on (h3) fun x12=>on (Z79_q a1 x12.FName) fun x14=>on ((⟨a2.nl,a2.l.take s20_4⟩:Sl TArg)) fun x16=>on (Z28_q x16 x12.FName) fun x17=>Option.bind (bif ((!x14.2)||x17.2) then((Z21_q y5_c0 true (22:Int) a4).bind fun x22=>some x22) else((fields_fits_q y5_c0.Fd x14.1.FType x12.FValue).bind fun x23=>(Z21_q y5_c0 ((!x23)||(a3&&(((decide (x12.FValue.FKind=(7:Int)))||((decide (x12.FValue.FKind=(3:Int)))&&((x12.FValue.FText==([]:Bs)))))||((decide (x12.FValue.FKind=(2:Int)))&&(decide (x12.FValue.FInt<(0:Int))))))) (23:Int) a4).bind fun x24=>some x24)) fun y10_c0=>Z25_q3 a1 a2 a3 a4 (r3) (s20_4+1) y10_c0
theorem Z25_l3_qe {a1:(Sl Z6)}{a2:(Sl TArg)}{a3:Bool}{a4:Bs}  (Kb3:(Z0)->Option Z0) (hend:∀(n3:Nat) (s20_4:Nat) (y5_c0:Z0),some y5_c0=Kb3 y5_c0):∀(n3:Nat) (s20_4:Nat) (y5_c0:Z0),(0<n3/\a2.l.length<s20_4+n3)->Z25_l3 a1 a2 a3 a4 n3 s20_4 y5_c0=Option.bind (Z25_q3 a1 a2 a3 a4 (a2.l.drop s20_4) s20_4 y5_c0) Kb3:=by
 intro n3;induction n3 with
 | zero=>intro s20_4 y5_c0 hn; exact absurd hn.1 (by omega)
 | succ n3 ih3 =>
  intro s20_4 y5_c0 hn;rw [Z25_l3];by_cases hlt:s20_4<a2.l.length
  ·obtain⟨h3,hh3⟩:=Qa hlt;rw [Q.drop_of hh3,Z25_q3];refine QT hlt ?_;refine Q.bindPO hh3 fun x12 hx_x12=>?_;refine Q.bindPO (Z79_eq _ _) fun x14 hx_x14=>?_;refine Q.bindPO (Q.partC_take (by omega)) fun x16 hx_x16=>?_;refine Q.bindPO (Z28_eq _ _) fun x17 hx_x17=>?_;refine Q.wrapOO fun Kj9 hKj9=>?_;have hj9:∀(y10_c0:Z0),Z25_j9 s20_4 (Z25_l3 a1 a2 a3 a4 n3) y10_c0=Kj9 y10_c0:=by
    intro y10_c0;refine Qe (hKj9 _) ?_;unfold Z25_j9;all_goals exact ih3 _ _ ⟨by omega,by omega⟩
   refine Q.condO ?_ ?_
   ·refine Q.bindO (Z21_eq _ _ _ _) fun x22=>?_;all_goals exact hj9 _
   refine Q.bindO (fields_fits_eq _ _ _) fun x23=>?_;refine Q.bindO (Z21_eq _ _ _ _) fun x24=>?_;all_goals exact hj9 _
  rw [dL (by omega),Z25_q3];refine QF hlt ?_;exact hend n3 s20_4 y5_c0
def Z25_q (a0:Z0) (a1:(Sl Z6)) (a2:(Sl TArg)) (a3:Bool) (a4:Bs):Option Z0:=Option.bind (Z25_q3 a1 a2 a3 a4 a2.l 0 a0) fun y5_c0=>some y5_c0
theorem Z25_eq (a0:Z0) (a1:(Sl Z6)) (a2:(Sl TArg)) (a3:Bool) (a4:Bs):Z25 a0 a1 a2 a3 a4=Z25_q a0 a1 a2 a3 a4:=by
 unfold Z25 Z25_q;refine Qs ?_;refine Q.wrapOO fun Kb3 hKb3=>?_;refine Z25_l3_qe  Kb3 ?_ _ _ _ ⟨Nat.succ_pos _,by omega⟩;intro n3 s20_4 y5_c0;refine Qe (hKb3 _) ?_;all_goals rfl
def Z22_q30 (a4:Bs) (x13:TDir):List Z6->Z0->Option (Z0)
 | [],y32_c0=>some y32_c0
 | h30::r30,y32_c0=>on (h30) fun x38=>on (Z28_q x13.FArgs x38.FName) fun x40=>(Z21_q y32_c0 (!x40.2) (22:Int) a4).bind fun x41=>Z22_q30 a4 x13 (r30) x41
theorem Z22_l30_qe {a4:Bs}{s21_5:Nat}{x13:TDir}{s13_18:(Sl Z6)}{k_next_4:Nat->Z0->Option Z0}  (Kb30:(Z0)->Option Z0) (hend:∀(n30:Nat) (s78_31:Nat) (y32_c0:Z0),Z22_j10 s21_5 k_next_4 y32_c0=Kb30 y32_c0):∀(n30:Nat) (s78_31:Nat) (y32_c0:Z0),(0<n30/\s13_18.l.length<s78_31+n30)->Z22_l30 a4 s21_5 x13 s13_18 k_next_4 n30 s78_31 y32_c0=Option.bind (Z22_q30 a4 x13 (s13_18.l.drop s78_31) y32_c0) Kb30:=by
 intro n30;induction n30 with
 | zero=>intro s78_31 y32_c0 hn; exact absurd hn.1 (by omega)
 | succ n30 ih30 =>
  intro s78_31 y32_c0 hn;rw [Z22_l30];by_cases hlt:s78_31<s13_18.l.length
  ·obtain⟨h30,hh30⟩:=Qa hlt;rw [Q.drop_of hh30,Z22_q30];refine QT hlt ?_;refine Q.bindPO hh30 fun x38 hx_x38=>?_;refine Q.bindPO (Z28_eq _ _) fun x40 hx_x40=>?_;refine Q.bindO (Z21_eq _ _ _ _) fun x41=>?_;all_goals exact ih30 _ _ ⟨by omega,by omega⟩
  rw [dL (by omega),Z22_q30];refine QF hlt ?_;exact hend n30 s78_31 y32_c0
def Z22_q4 (a1:TSel) (a2:TRef) (a3:Bool) (a4:Bs):List TDir->Nat->Z0->Option (Z0)
 | [],s21_5,y6_c0=>some y6_c0
 | h4::r4,s21_5,y6_c0=>on (h4) fun x13=>(Z20_q x13.FName ((!decide (a1.FKind=(2:Int)))&&(!decide (a1.FKind=(3:Int))))).bind fun x16=>guardO ((((x13.FName==([115,116,114,101,97,109]:Bs)))&&a3)) (Z115_q a2) false fun x43=>on (bif ((((x13.FName==([115,116,114,101,97,109]:Bs)))&&a3)&&(!x43)) then((Sl.nil:Sl Z6)) else(x16)) fun s13_18=>on (bif !s13_18.nl then(⟨a1.FDirs.nl,a1.FDirs.l.take s21_5⟩:Sl TDir) else(Sl.nil:Sl TDir)) fun x21=>on (bif !s13_18.nl then Z98_q x21 (fun y0=>Z23_q y0 x13) else false) fun x22=>Option.bind (bif (s13_18.nl||x22) then((Z21_q y6_c0 true (29:Int) a4).bind fun x25=>some x25) else((Z25_q y6_c0 s13_18 x13.FArgs (((x13.FName==([100,101,102,101,114]:Bs)))||((x13.FName==([115,116,114,101,97,109]:Bs)))) a4).bind fun x27=>Option.bind (Z22_q30 a4 x13 s13_18.l x27) fun y32_c0=>some y32_c0)) fun y11_c0=>Z22_q4 a1 a2 a3 a4 (r4) (s21_5+1) y11_c0
theorem Z22_l4_qe {a1:TSel}{a2:TRef}{a3:Bool}{a4:Bs}  (Kb4:(Z0)->Option Z0) (hend:∀(n4:Nat) (s21_5:Nat) (y6_c0:Z0),some y6_c0=Kb4 y6_c0):∀(n4:Nat) (s21_5:Nat) (y6_c0:Z0),(0<n4/\a1.FDirs.l.length<s21_5+n4)->Z22_l4 a1 a2 a3 a4 n4 s21_5 y6_c0=Option.bind (Z22_q4 a1 a2 a3 a4 (a1.FDirs.l.drop s21_5) s21_5 y6_c0) Kb4:=by
 intro n4;induction n4 with
 | zero=>intro s21_5 y6_c0 hn; exact absurd hn.1 (by omega)
 | succ n4 ih4 =>
  intro s21_5 y6_c0 hn;rw [Z22_l4];by_cases hlt:s21_5<a1.FDirs.l.length
  ·obtain⟨h4,hh4⟩:=Qa hlt;rw [Q.drop_of hh4,Z22_q4];refine QT hlt ?_;refine Q.bindPO hh4 fun x13 hx_x13=>?_;refine Q.bindO (Z20_eq _ _) fun x16=>?_;refine Q.guardOO (Z115_eq _) fun x43=>?_;refine Q.wrapPO fun Kj17 hKj17=>?_;have hj17:∀(s13_18:(Sl Z6)),Z22_j17 a1 a4 s21_5 y6_c0 x13 (Z22_l4 a1 a2 a3 a4 n4) s13_18=Kj17 s13_18:=by
    intro s13_18;refine Qe (hKj17 _) ?_;unfold Z22_j17;refine Q.guardPO (Q.partC_take (by omega)) fun x21 hx_x21=>?_;refine Q.guardPO (by simp only [Z23_eq,Z98_eq]) fun x22 hx_x22=>?_;refine Q.wrapOO fun Kj10 hKj10=>?_;have hj10:∀(y11_c0:Z0),Z22_j10 s21_5 (Z22_l4 a1 a2 a3 a4 n4) y11_c0=Kj10 y11_c0:=by
     intro y11_c0;refine Qe (hKj10 _) ?_;unfold Z22_j10;all_goals exact ih4 _ _ ⟨by omega,by omega⟩
    refine Q.condO ?_ ?_
    ·refine Q.bindO (Z21_eq _ _ _ _) fun x25=>?_;all_goals exact hj10 _
    refine Q.bindO (Z25_eq _ _ _ _ _) fun x27=>?_;refine Q.wrapOO fun Kb30 hKb30=>?_;refine Z22_l30_qe  Kb30 ?_ _ _ _ ⟨Nat.succ_pos _,by omega⟩;intro n30 s78_31 y32_c0;refine Qe (hKb30 _) ?_;all_goals exact hj10 _
   refine Q.condP ?_ ?_
   ·all_goals exact hj17 _
   all_goals exact hj17 _
  rw [dL (by omega),Z22_q4];refine QF hlt ?_;exact hend n4 s21_5 y6_c0
def Z22_q (a0:Z0) (a1:TSel) (a2:TRef) (a3:Bool) (a4:Bs):Option Z0:=Option.bind (Z22_q4 a1 a2 a3 a4 a1.FDirs.l 0 a0) fun y6_c0=>some y6_c0
theorem Z22_eq (a0:Z0) (a1:TSel) (a2:TRef) (a3:Bool) (a4:Bs):Z22 a0 a1 a2 a3 a4=Z22_q a0 a1 a2 a3 a4:=by
 unfold Z22 Z22_q;refine Qs ?_;refine Q.wrapOO fun Kb4 hKb4=>?_;refine Z22_l4_qe  Kb4 ?_ _ _ _ ⟨Nat.succ_pos _,by omega⟩;intro n4 s21_5 y6_c0;refine Qe (hKb4 _) ?_;all_goals rfl
def Z19_q (a0:TDoc) (a1:Bs) (a2:Bs):Option (TRef×Bool):=on (Z76_q a0 a1) fun x4=>bif (!x4) then(some ((TRef.mk ([]:Bs) (Sl.nil:Sl Int)),false)) else(bif ((a2==([95,95,116,121,112,101,110,97,109,101]:Bs))) then(on (Z117_q ([83,116,114,105,110,103]:Bs)) fun x11=>(Z118_q x11).bind fun x12=>some (x12,true)) else(on (Z78_q a0 a1) fun x14=>on (Z77_q x14.1 a2) fun x16=>bif (!x16.2) then(some ((TRef.mk ([]:Bs) (Sl.nil:Sl Int)),false)) else((Z95_q x16.1.FType.FWraps).bind fun x22=>some ((TRef.mk x16.1.FType.FName x22),true))))
theorem Z19_eq (a0:TDoc) (a1:Bs) (a2:Bs):Z19 a0 a1 a2=Z19_q a0 a1 a2:=by
 unfold Z19 Z19_q;refine Qs ?_;refine Q.bindPO (Z76_eq _ _) fun x4 hx_x4=>?_;refine Q.condO ?_ ?_
 ·all_goals rfl
 refine Q.condO ?_ ?_
 ·refine Q.bindPO (Z117_eq _) fun x11 hx_x11=>?_;refine Q.bindO (Z118_eq _) fun x12=>?_;all_goals rfl
 refine Q.bindPO (Z78_eq _ _) fun x14 hx_x14=>?_;refine Q.bindPO (Z77_eq _ _) fun x16 hx_x16=>?_;refine Q.condO ?_ ?_
 ·all_goals rfl
 refine Q.bindO (Z95_eq _) fun x22=>?_;all_goals rfl
end Go.Proofs

namespace Go.Proofs
open Go Go.Ab
def fields_checker_sels_q3 (a2:Bs) (a3:Bs) (k_rec_29:Z0->(Sl TSel)->Bs->Bs->Option Z0) (k_rec_56:Z0->TSel->Bs->Bs->Option Z0):List TSel->Z0->Option (Z0)
 | [],y5_c0=>some y5_c0
 | h3::r3,y5_c0=>on (h3) fun x12=>Option.bind (bif (decide (x12.FKind=(2:Int))) then((Z22_q y5_c0 x12 (TRef.mk ([]:Bs) (Sl.nil:Sl Int)) false a3).bind fun x16=>some x16) else(bif (decide (x12.FKind=(3:Int))) then((Z22_q y5_c0 x12 (TRef.mk ([]:Bs) (Sl.nil:Sl Int)) false a3).bind fun x20=>on (bif (!(x12.FOn==([]:Bs))) then(x12.FOn) else(a2)) fun s10_23=>(k_rec_29 x20 x12.FSels s10_23 a3).bind fun x24=>some x24) else((k_rec_56 y5_c0 x12 a2 a3).bind fun x27=>some x27))) fun y10_c0=>fields_checker_sels_q3 a2 a3 k_rec_29 k_rec_56 (r3) y10_c0
theorem fields_checker_sels_l3_qe {a1:(Sl TSel)}{a2:Bs}{a3:Bs}{k_rec_29:Z0->(Sl TSel)->Bs->Bs->Option Z0}{k_rec_56:Z0->TSel->Bs->Bs->Option Z0}  (Kb3:(Z0)->Option Z0) (hend:∀(n3:Nat) (s13_4:Nat) (y5_c0:Z0),some y5_c0=Kb3 y5_c0):∀(n3:Nat) (s13_4:Nat) (y5_c0:Z0),(0<n3/\a1.l.length<s13_4+n3)->fields_checker_sels_l3 a1 a2 a3 k_rec_29 k_rec_56 n3 s13_4 y5_c0=Option.bind (fields_checker_sels_q3 a2 a3 k_rec_29 k_rec_56 (a1.l.drop s13_4) y5_c0) Kb3:=by
 intro n3;induction n3 with
 | zero=>intro s13_4 y5_c0 hn; exact absurd hn.1 (by omega)
 | succ n3 ih3 =>
  intro s13_4 y5_c0 hn;rw [fields_checker_sels_l3];by_cases hlt:s13_4<a1.l.length
  ·obtain⟨h3,hh3⟩:=Qa hlt;rw [Q.drop_of hh3,fields_checker_sels_q3];refine QT hlt ?_;refine Q.bindPO hh3 fun x12 hx_x12=>?_;refine Q.wrapOO fun Kj9 hKj9=>?_;have hj9:∀(y10_c0:Z0),fields_checker_sels_j9 s13_4 (fields_checker_sels_l3 a1 a2 a3 k_rec_29 k_rec_56 n3) y10_c0=Kj9 y10_c0:=by
    intro y10_c0;refine Qe (hKj9 _) ?_;unfold fields_checker_sels_j9;all_goals exact ih3 _ _ ⟨by omega,by omega⟩
   refine Q.condO ?_ ?_
   ·refine Q.bindO (Z22_eq _ _ _ _ _) fun x16=>?_;all_goals exact hj9 _
   refine Q.condO ?_ ?_
   ·refine Q.bindO (Z22_eq _ _ _ _ _) fun x20=>?_;refine Q.wrapPO fun Kj22 hKj22=>?_;have hj22:∀(s10_23:Bs),fields_checker_sels_j22 a3 s13_4 x12 x20 (fields_checker_sels_l3 a1 a2 a3 k_rec_29 k_rec_56 n3) k_rec_29 s10_23=Kj22 s10_23:=by
     intro s10_23;refine Qe (hKj22 _) ?_;unfold fields_checker_sels_j22;refine Q.bindO rfl fun x24=>?_;all_goals exact hj9 _
    refine Q.condP ?_ ?_
    ·all_goals exact hj22 _
    all_goals exact hj22 _
   refine Q.bindO rfl fun x27=>?_;all_goals exact hj9 _
  rw [dL (by omega),fields_checker_sels_q3];refine QF hlt ?_;exact hend n3 s13_4 y5_c0
def Z24_q37 (a1:TSel) (x7:Bs):List Z6->Z0->Option (Z0)
 | [],y39_c0=>some y39_c0
 | h37::r37,y39_c0=>on (h37) fun x45=>on (Z28_q a1.FArgs x45.FName) fun x47=>on (Z116_q x45.FType) fun x48=>(Z21_q y39_c0 ((x48&&(!x45.FHas))&&(!x47.2)) (22:Int) x7).bind fun x49=>Z24_q37 a1 x7 (r37) x49
theorem Z24_l37_qe {a1:TSel}{x7:Bs}{x12:(TRef×Bool)}{y32_l0:Z4}{k_rec_29:Z0->(Sl TSel)->Bs->Bs->Option Z0}  (Kb37:(Z0)->Option Z0) (hend:∀(n37:Nat) (s122_38:Nat) (y39_c0:Z0),Z24_j16 a1 x7 x12 k_rec_29 y39_c0=Kb37 y39_c0):∀(n37:Nat) (s122_38:Nat) (y39_c0:Z0),(0<n37/\y32_l0.FArgs.l.length<s122_38+n37)->Z24_l37 a1 x7 x12 y32_l0 k_rec_29 n37 s122_38 y39_c0=Option.bind (Z24_q37 a1 x7 (y32_l0.FArgs.l.drop s122_38) y39_c0) Kb37:=by
 intro n37;induction n37 with
 | zero=>intro s122_38 y39_c0 hn; exact absurd hn.1 (by omega)
 | succ n37 ih37 =>
  intro s122_38 y39_c0 hn;rw [Z24_l37];by_cases hlt:s122_38<y32_l0.FArgs.l.length
  ·obtain⟨h37,hh37⟩:=Qa hlt;rw [Q.drop_of hh37,Z24_q37];refine QT hlt ?_;refine Q.bindPO hh37 fun x45 hx_x45=>?_;refine Q.bindPO (Z28_eq _ _) fun x47 hx_x47=>?_;refine Q.bindPO (Z116_eq _) fun x48 hx_x48=>?_;refine Q.bindO (Z21_eq _ _ _ _) fun x49=>?_;all_goals exact ih37 _ _ ⟨by omega,by omega⟩
  rw [dL (by omega),Z24_q37];refine QF hlt ?_;exact hend n37 s122_38 y39_c0
mutual
def fields_checker_sels_qn:Nat->Z0->(Sl TSel)->Bs->Bs->Option Z0
 | 0,_,_,_,_=>none
 | n+1,a0,a1,a2,a3=>Option.bind (fields_checker_sels_q3 a2 a3 (fields_checker_sels_qn n) (Z24_qn n) a1.l a0) fun y5_c0=>some y5_c0
def Z24_qn:Nat->Z0->TSel->Bs->Bs->Option Z0
 | 0,_,_,_,_=>none
 | n+1,a0,a1,a2,a3=>on (bif ((a1.FAlias==([]:Bs))) then(a1.FName) else(a1.FAlias)) fun s8_4=>(catC ([47]:Bs) s8_4).bind fun x6=>(catC a3 x6).bind fun x7=>on (Z113_q a1.FAlias) fun x9=>(Z21_q a0 x9 (6:Int) x7).bind fun x10=>(Z19_q x10.Fd a2 a1.FName).bind fun x12=>on (bif (!x12.2) then Z76_q x10.Fd a2 else false) fun x14=>(Z21_q x10 ((!x12.2)&&x14) (20:Int) x7).bind fun x15=>Option.bind (bif x12.2 then(on (Z81_q x15.Fd x12.1.FName) fun x24=>on (bif !(x24&&(decide ((0:Int)<((a1.FSels.l.length:Nat):Int)))) then Z76_q x15.Fd x12.1.FName else false) fun x26=>(Z21_q x15 ((x24&&(decide ((0:Int)<((a1.FSels.l.length:Nat):Int))))||(x26&&(decide (((a1.FSels.l.length:Nat):Int)=(0:Int))))) (21:Int) x7).bind fun x27=>on (Z78_q x27.Fd a2) fun x29=>on (bif (!(a1.FName==([95,95,116,121,112,101,110,97,109,101]:Bs))) then(on (Z77_q x29.1 a1.FName) fun x52=>x52.1) else((Z4.mk ([]:Bs) (Sl.nil:Sl Z6) TRef.zero (Sl.nil:Sl TDir)))) fun y32_l0=>(Z25_q x27 y32_l0.FArgs a1.FArgs false x7).bind fun x34=>Option.bind (Z24_q37 a1 x7 y32_l0.FArgs.l x34) fun y39_c0=>some y39_c0) else(some x15)) fun y17_c0=>(Z22_q y17_c0 a1 x12.1 x12.2 x7).bind fun x19=>((fields_checker_sels_qn n) x19 a1.FSels x12.1.FName x7).bind fun x20=>some x20
end
theorem fields_checker_sels_qall:∀n:Nat,fields_checker_sels_n n=fields_checker_sels_qn n/\Z24_n n=Z24_qn n:=by
 intro n;induction n with
 | zero=>exact⟨(by funext a0 a1 a2 a3; first|rfl|(rw [fields_checker_sels_n,fields_checker_sels_qn])),(by funext a0 a1 a2 a3; first|rfl|(rw [Z24_n,Z24_qn]))⟩
 | succ n ih =>
  refine⟨?_, ?_⟩
  ·funext a0 a1 a2 a3
   refine Qs ?_;rw [fields_checker_sels_n,fields_checker_sels_qn];try rw [ih.1]
   try rw [ih.2]
   refine Q.wrapOO fun Kb3 hKb3=>?_;refine fields_checker_sels_l3_qe  Kb3 ?_ _ _ _ ⟨Nat.succ_pos _,by omega⟩;intro n3 s13_4 y5_c0;refine Qe (hKb3 _) ?_;all_goals rfl
  funext a0 a1 a2 a3
  refine Qs ?_;rw [Z24_n,Z24_qn];try rw [ih.1]
  try rw [ih.2]
  refine Q.wrapPO fun Kj3 hKj3=>?_;have hj3:∀(s8_4:Bs),Z24_j3 a0 a1 a2 a3 (fields_checker_sels_qn n) s8_4=Kj3 s8_4:=by
   intro s8_4;refine Qe (hKj3 _) ?_;unfold Z24_j3;refine Q.bindO rfl fun x6=>?_;refine Q.bindO rfl fun x7=>?_;refine Q.bindPO (Z113_eq _) fun x9 hx_x9=>?_;refine Q.bindO (Z21_eq _ _ _ _) fun x10=>?_;refine Q.bindO (Z19_eq _ _ _) fun x12=>?_;refine Q.guardPO (Z76_eq _ _) fun x14 hx_x14=>?_;refine Q.bindO (Z21_eq _ _ _ _) fun x15=>?_;refine Q.wrapOO fun Kj16 hKj16=>?_;have hj16:∀(y17_c0:Z0),Z24_j16 a1 x7 x12 (fields_checker_sels_qn n) y17_c0=Kj16 y17_c0:=by
    intro y17_c0;refine Qe (hKj16 _) ?_;unfold Z24_j16;refine Q.bindO (Z22_eq _ _ _ _ _) fun x19=>?_;refine Q.bindO rfl fun x20=>?_;all_goals rfl
   refine Q.condO ?_ ?_
   ·refine Q.bindPO (Z81_eq _ _) fun x24 hx_x24=>?_;refine Q.guardPO (Z76_eq _ _) fun x26 hx_x26=>?_;refine Q.bindO (Z21_eq _ _ _ _) fun x27=>?_;refine Q.bindPO (Z78_eq _ _) fun x29 hx_x29=>?_;refine Q.wrapPO fun Kj31 hKj31=>?_;have hj31:∀(y32_l0:Z4),Z24_j31 a1 x7 x12 x27 (fields_checker_sels_qn n) y32_l0=Kj31 y32_l0:=by
     intro y32_l0;refine Qe (hKj31 _) ?_;unfold Z24_j31;refine Q.bindO (Z25_eq _ _ _ _ _) fun x34=>?_;refine Q.wrapOO fun Kb37 hKb37=>?_;refine Z24_l37_qe  Kb37 ?_ _ _ _ ⟨Nat.succ_pos _,by omega⟩;intro n37 s122_38 y39_c0;refine Qe (hKb37 _) ?_;all_goals exact hj16 _
    refine Q.condP ?_ ?_
    ·refine Q.bindP (Z77_eq _ _) fun x52 hx_x52=>?_;all_goals exact hj31 _
    all_goals exact hj31 _
   all_goals exact hj16 _
  refine Q.condP ?_ ?_
  ·all_goals exact hj3 _
  all_goals exact hj3 _
def fields_checker_sels_q (a0:Z0) (a1:(Sl TSel)) (a2:Bs) (a3:Bs):Option Z0:=fields_checker_sels_qn F0 a0 a1 a2 a3
theorem fields_checker_sels_eq (a0:Z0) (a1:(Sl TSel)) (a2:Bs) (a3:Bs):fields_checker_sels a0 a1 a2 a3=fields_checker_sels_q a0 a1 a2 a3:=by
 unfold fields_checker_sels fields_checker_sels_q; rw [(fields_checker_sels_qall F0).1]
def Z18_q24 (a0:TDoc):List TOp->Z0->Option (Z0)
 | [],y26_id18_3=>some y26_id18_3
 | h24::r24,y26_id18_3=>on (h24) fun x32=>on (Z82_q x32.FKind) fun x34=>on (Z78_q a0 x34) fun x36=>(Z26_q y26_id18_3 x32.FSels ([]:List Bs) ([]:List Bs)).bind fun x41=>(Z21_q y26_id18_3 (((!x36.2)||(!decide (x36.1.FKind=(1:Int))))||((decide (x32.FKind=(3:Int)))&&(!decide ((((seenM x41.1).length:Nat):Int)=(1:Int))))) (30:Int) x32.FName).bind fun x44=>(fields_checker_sels_q x44 x32.FSels x34 x32.FName).bind fun x45=>Z18_q24 a0 (r24) x45
theorem Z18_l24_qe {a0:TDoc}{a1:Z8}  (Kb24:(Z0)->Option (Sl Z3)) (hend:∀(n24:Nat) (s22_25:Nat) (y26_id18_3:Z0),Z18_j5 a1  y26_id18_3=Kb24 y26_id18_3):∀(n24:Nat) (s22_25:Nat) (y26_id18_3:Z0),(0<n24/\a1.FOps.l.length<s22_25+n24)->Z18_l24 a0 a1 n24 s22_25 y26_id18_3=Option.bind (Z18_q24 a0 (a1.FOps.l.drop s22_25) y26_id18_3) Kb24:=by
 intro n24;induction n24 with
 | zero=>intro s22_25 y26_id18_3 hn; exact absurd hn.1 (by omega)
 | succ n24 ih24 =>
  intro s22_25 y26_id18_3 hn;rw [Z18_l24];by_cases hlt:s22_25<a1.FOps.l.length
  ·obtain⟨h24,hh24⟩:=Qa hlt;rw [Q.drop_of hh24,Z18_q24];refine QT hlt ?_;refine Q.bindPO hh24 fun x32 hx_x32=>?_;refine Q.bindPO (Z82_eq _) fun x34 hx_x34=>?_;refine Q.bindPO (Z78_eq _ _) fun x36 hx_x36=>?_;refine Q.bindO (Z26_eq _ _ _ _) fun x41=>?_;refine Q.bindO (Z21_eq _ _ _ _) fun x44=>?_;refine Q.bindO (fields_checker_sels_eq _ _ _ _) fun x45=>?_;all_goals exact ih24 _ _ ⟨by omega,by omega⟩
  rw [dL (by omega),Z18_q24];refine QF hlt ?_;exact hend n24 s22_25 y26_id18_3
def Z18_q12 :List Z5->Z0->Option (Z0)
 | [],y14_id18_3=>some y14_id18_3
 | h12::r12,y14_id18_3=>on (h12) fun x20=>(fields_checker_sels_q y14_id18_3 x20.FSels x20.FOn x20.FName).bind fun x21=>Z18_q12  (r12) x21
theorem Z18_l12_qe {a1:Z8}  (Kb12:(Z0)->Option (Sl Z3)) (hend:∀(n12:Nat) (s75_13:Nat) (y14_id18_3:Z0),Z18_j7   y14_id18_3=Kb12 y14_id18_3):∀(n12:Nat) (s75_13:Nat) (y14_id18_3:Z0),(0<n12/\a1.FFrags.l.length<s75_13+n12)->Z18_l12 a1 n12 s75_13 y14_id18_3=Option.bind (Z18_q12  (a1.FFrags.l.drop s75_13) y14_id18_3) Kb12:=by
 intro n12;induction n12 with
 | zero=>intro s75_13 y14_id18_3 hn; exact absurd hn.1 (by omega)
 | succ n12 ih12 =>
  intro s75_13 y14_id18_3 hn;rw [Z18_l12];by_cases hlt:s75_13<a1.FFrags.l.length
  ·obtain⟨h12,hh12⟩:=Qa hlt;rw [Q.drop_of hh12,Z18_q12];refine QT hlt ?_;refine Q.bindPO hh12 fun x20 hx_x20=>?_;refine Q.bindO (fields_checker_sels_eq _ _ _ _) fun x21=>?_;all_goals exact ih12 _ _ ⟨by omega,by omega⟩
  rw [dL (by omega),Z18_q12];refine QF hlt ?_;exact hend n12 s75_13 y14_id18_3
def Z18_q (a0:TDoc) (a1:Z8):Option (Sl Z3):=Option.bind (Z18_q24 a0 a1.FOps.l (Z0.mk a0 a1 (Sl.nil:Sl Z3))) fun y26_id18_3=>on (y26_id18_3) fun y6_id18_3=>Option.bind (Z18_q12  a1.FFrags.l y6_id18_3) fun y14_id18_3=>on (y14_id18_3) fun y8_id18_3=>some y8_id18_3.Fout
theorem Z18_eq (a0:TDoc) (a1:Z8):Z18 a0 a1=Z18_q a0 a1:=by
 unfold Z18 Z18_q;refine Qs ?_;refine Q.wrapOO fun Kb24 hKb24=>?_;refine Z18_l24_qe  Kb24 ?_ _ _ _ ⟨Nat.succ_pos _,by omega⟩;intro n24 s22_25 y26_id18_3;refine Qe (hKb24 _) ?_;refine Q.wrapPO fun Kj5 hKj5=>?_;have hj5:∀(y6_id18_3:Z0),Z18_j5 a1 y6_id18_3=Kj5 y6_id18_3:=by
  intro y6_id18_3;refine Qe (hKj5 _) ?_;unfold Z18_j5;refine Q.wrapOO fun Kb12 hKb12=>?_;refine Z18_l12_qe  Kb12 ?_ _ _ _ ⟨Nat.succ_pos _,by omega⟩;intro n12 s75_13 y14_id18_3;refine Qe (hKb12 _) ?_;refine Q.wrapPO fun Kj7 hKj7=>?_;have hj7:∀(y8_id18_3:Z0),Z18_j7  y8_id18_3=Kj7 y8_id18_3:=by
   intro y8_id18_3;refine Qe (hKj7 _) ?_;unfold Z18_j7;all_goals rfl
  all_goals exact hj7 _
 all_goals exact hj5 _
def Z34_q10 (a0:Z8):List Bs->Bool->Option (Bool)
 | [],s7_11=>some s7_11
 | h10::r10,s7_11=>on (h10) fun x18=>on (Z33_q a0 x18) fun x20=>guardO (s7_11) (Z38_q a0 x20.1) false fun x21=>Z34_q10 a0 (r10) (s7_11&&(!x21))
theorem Z34_l10_qe {a0:Z8}{x4:((Sl Bs)×Bool)}  (Kb10:(Bool)->Option ((Sl Bs)×Bool)) (hend:∀(n10:Nat) (s7_11:Bool) (s20_12:Nat),Z34_j5 x4  s7_11=Kb10 s7_11):∀(n10:Nat) (s7_11:Bool) (s20_12:Nat),(0<n10/\x4.1.l.length<s20_12+n10)->Z34_l10 a0 x4 n10 s7_11 s20_12=Option.bind (Z34_q10 a0 (x4.1.l.drop s20_12) s7_11) Kb10:=by
 intro n10;induction n10 with
 | zero=>intro s7_11 s20_12 hn; exact absurd hn.1 (by omega)
 | succ n10 ih10 =>
  intro s7_11 s20_12 hn;rw [Z34_l10];by_cases hlt:s20_12<x4.1.l.length
  ·obtain⟨h10,hh10⟩:=Qa hlt;rw [Q.drop_of hh10,Z34_q10];refine QT hlt ?_;refine Q.bindPO hh10 fun x18 hx_x18=>?_;refine Q.bindPO (Z33_eq _ _) fun x20 hx_x20=>?_;refine Q.guardOO (Z38_eq _ _) fun x21=>?_;all_goals exact ih10 _ _ ⟨by omega,by omega⟩
  rw [dL (by omega),Z34_q10];refine QF hlt ?_;exact hend n10 s7_11 s20_12
def Z34_q (a0:Z8) (a1:(Sl TSel)):Option ((Sl Bs)×Bool):=(Z39_q a0 a1 (Sl.nil:Sl Bs)).bind fun x4=>Option.bind (Z34_q10 a0 x4.1.l x4.2) fun s7_11=>on (s7_11) fun s7_6=>some (x4.1,s7_6)
theorem Z34_eq (a0:Z8) (a1:(Sl TSel)):Z34 a0 a1=Z34_q a0 a1:=by
 unfold Z34 Z34_q;refine Qs ?_;refine Q.bindO (Z39_eq _ _ _) fun x4=>?_;refine Q.wrapOO fun Kb10 hKb10=>?_;refine Z34_l10_qe  Kb10 ?_ _ _ _ ⟨Nat.succ_pos _,by omega⟩;intro n10 s7_11 s20_12;refine Qe (hKb10 _) ?_;refine Q.wrapPO fun Kj5 hKj5=>?_;have hj5:∀(s7_6:Bool),Z34_j5 x4 s7_6=Kj5 s7_6:=by
  intro s7_6;refine Qe (hKj5 _) ?_;unfold Z34_j5;all_goals rfl
 all_goals exact hj5 _
def Z94_q (a0:(Sl TUse)):Option (Sl TUse):=bif a0.nl then(some (Sl.nil:Sl TUse)) else((appC 56 (⟨false,[]⟩:Sl TUse) a0).bind fun x7=>some x7)
theorem Z94_eq (a0:(Sl TUse)):Z94 a0=Z94_q a0:=by
 unfold Z94 Z94_q;refine Qs ?_;refine Q.condO ?_ ?_
 ·all_goals rfl
 refine Q.bindO rfl fun x7=>?_;all_goals rfl
def Z123_q12 :List TUse->(Sl TUse)->Option ((Sl TUse))
 | [],y14_ar1=>some y14_ar1
 | h12::r12,y14_ar1=>on (h12) fun x21=>guardO ((decide ((0:Int)<((y14_ar1.l.length:Nat):Int)))) (subC ((y14_ar1.l.length:Nat):Int) (1:Int)) (0:Int) fun x26=>guardO ((decide ((0:Int)<((y14_ar1.l.length:Nat):Int)))) (idxC y14_ar1.l x26) TUse.zero fun x27=>guardO (((decide ((0:Int)<((y14_ar1.l.length:Nat):Int)))&&((x27.FType==x21.FType)))) (subC ((y14_ar1.l.length:Nat):Int) (1:Int)) (0:Int) fun x28=>guardO (((decide ((0:Int)<((y14_ar1.l.length:Nat):Int)))&&((x27.FType==x21.FType)))) (idxC y14_ar1.l x28) TUse.zero fun x29=>guardO ((((decide ((0:Int)<((y14_ar1.l.length:Nat):Int)))&&((x27.FType==x21.FType)))&&((x29.FField==x21.FField)))) (subC ((y14_ar1.l.length:Nat):Int) (1:Int)) (0:Int) fun x30=>guardO ((((decide ((0:Int)<((y14_ar1.l.length:Nat):Int)))&&((x27.FType==x21.FType)))&&((x29.FField==x21.FField)))) (idxC y14_ar1.l x30) TUse.zero fun x31=>Option.bind (bif ((((decide ((0:Int)<((y14_ar1.l.length:Nat):Int)))&&((x27.FType==x21.FType)))&&((x29.FField==x21.FField)))&&((x31.FArg==x21.FArg))) then((subC ((y14_ar1.l.length:Nat):Int) (1:Int)).bind fun x34=>(idxC y14_ar1.l x34).bind fun x35=>(idxC y14_ar1.l x34).bind fun x36=>some (Sl.setL y14_ar1 x34.toNat (TUse.mk x36.FType x36.FField x36.FArg (IntKind.wrap .i64 (x35.FCount+x21.FCount))))) else((appC 56 y14_ar1 (⟨false,[x21]⟩:Sl TUse)).bind fun x37=>some x37)) fun y19_ar1=>Z123_q12  (r12) y19_ar1
theorem Z123_l12_qe {x5:(Sl TUse)}  (Kb12:((Sl TUse))->Option (Sl TUse)) (hend:∀(n12:Nat) (s14_13:Nat) (y14_ar1:(Sl TUse)),Z123_j7   y14_ar1=Kb12 y14_ar1):∀(n12:Nat) (s14_13:Nat) (y14_ar1:(Sl TUse)),(0<n12/\x5.l.length<s14_13+n12)->Z123_l12 x5 n12 s14_13 y14_ar1=Option.bind (Z123_q12  (x5.l.drop s14_13) y14_ar1) Kb12:=by
 intro n12;induction n12 with
 | zero=>intro s14_13 y14_ar1 hn; exact absurd hn.1 (by omega)
 | succ n12 ih12 =>
  intro s14_13 y14_ar1 hn;rw [Z123_l12];by_cases hlt:s14_13<x5.l.length
  ·obtain⟨h12,hh12⟩:=Qa hlt;rw [Q.drop_of hh12,Z123_q12];refine QT hlt ?_;refine Q.bindPO hh12 fun x21 hx_x21=>?_;refine Q.guardOO rfl fun x26=>?_;refine Q.guardOO rfl fun x27=>?_;refine Q.guardOO rfl fun x28=>?_;refine Q.guardOO rfl fun x29=>?_;refine Q.guardOO rfl fun x30=>?_;refine Q.guardOO rfl fun x31=>?_;refine Q.wrapOO fun Kj18 hKj18=>?_;have hj18:∀(y19_ar1:(Sl TUse)),Z123_j18 s14_13 (Z123_l12 x5 n12) y19_ar1=Kj18 y19_ar1:=by
    intro y19_ar1;refine Qe (hKj18 _) ?_;unfold Z123_j18;all_goals exact ih12 _ _ ⟨by omega,by omega⟩
   refine Q.condO ?_ ?_
   ·refine Q.bindO rfl fun x34=>?_;refine Q.bindO rfl fun x35=>?_;refine Q.bindO rfl fun x36=>?_;all_goals exact hj18 _
   refine Q.bindO rfl fun x37=>?_;all_goals exact hj18 _
  rw [dL (by omega),Z123_q12];refine QF hlt ?_;exact hend n12 s14_13 y14_ar1
def Z123_q (a0:(Sl TUse)):Option (Sl TUse):=(Z94_q a0).bind fun x3=>(some (sortL TUse.c Z124 x3)).bind fun x5=>Option.bind (Z123_q12  x5.l (Sl.nil:Sl TUse)) fun y14_ar1=>on (y14_ar1) fun y8_ar1=>some y8_ar1
theorem Z123_eq (a0:(Sl TUse)):Z123 a0=Z123_q a0:=by
 unfold Z123 Z123_q;refine Qs ?_;refine Q.bindO (Z94_eq _) fun x3=>?_;refine Q.bindO rfl fun x5=>?_;refine Q.wrapOO fun Kb12 hKb12=>?_;refine Z123_l12_qe  Kb12 ?_ _ _ _ ⟨Nat.succ_pos _,by omega⟩;intro n12 s14_13 y14_ar1;refine Qe (hKb12 _) ?_;refine Q.wrapPO fun Kj7 hKj7=>?_;have hj7:∀(y8_ar1:(Sl TUse)),Z123_j7  y8_ar1=Kj7 y8_ar1:=by
  intro y8_ar1;refine Qe (hKj7 _) ?_;unfold Z123_j7;all_goals rfl
 all_goals exact hj7 _
def Z128_q (a0:Z10) (a1:Bs) (a2:Bs) (a3:Bs):Option Z10:=(appC 56 a0.Fout (⟨false,[(TUse.mk a1 a2 a3 (1:Int))]⟩:Sl TUse)).bind fun x1=>some (Z10.mk a0.Fd a0.Fq x1)
theorem Z128_eq (a0:Z10) (a1:Bs) (a2:Bs) (a3:Bs):Z128 a0 a1 a2 a3=Z128_q a0 a1 a2 a3:=by
 unfold Z128 Z128_q;refine Qs ?_;refine Q.bindO rfl fun x1=>?_;all_goals rfl
def Z125_q (a0:Z10) (a1:Bs):Option Z10:=on (Z76_q a0.Fd a1) fun x2=>bif x2 then((Z128_q a0 a1 ([]:Bs) ([]:Bs)).bind fun x4=>some x4) else(some a0)
theorem Z125_eq (a0:Z10) (a1:Bs):Z125 a0 a1=Z125_q a0 a1:=by
 unfold Z125 Z125_q;refine Qs ?_;refine Q.bindPO (Z76_eq _ _) fun x2 hx_x2=>?_;refine Q.condO ?_ ?_
 ·refine Q.bindO (Z128_eq _ _ _ _) fun x4=>?_;all_goals rfl
 all_goals rfl
def Z126_q19 (a1:TSel) (a2:Bs) (x13:(Z4×Bool)):List TArg->Z10->Option (Z10)
 | [],y21_c0=>some y21_c0
 | h19::r19,y21_c0=>on (h19) fun x28=>on (Z79_q x13.1.FArgs x28.FName) fun x30=>Option.bind (bif x30.2 then((Z128_q y21_c0 a2 a1.FName x28.FName).bind fun x34=>(Z129 x34 x28.FValue x30.1.FType).bind fun x35=>some x35) else(some y21_c0)) fun y26_c0=>Z126_q19 a1 a2 x13 (r19) y26_c0
theorem Z126_l19_qe {a1:TSel}{a2:Bs}{x3:(TRef×Bool)}{x13:(Z4×Bool)}  (Kb19:(Z10)->Option (Bs×Z10)) (hend:∀(n19:Nat) (s54_20:Nat) (y21_c0:Z10),Z126_j14 x3  y21_c0=Kb19 y21_c0):∀(n19:Nat) (s54_20:Nat) (y21_c0:Z10),(0<n19/\a1.FArgs.l.length<s54_20+n19)->Z126_l19 a1 a2 x3 x13 n19 s54_20 y21_c0=Option.bind (Z126_q19 a1 a2 x13 (a1.FArgs.l.drop s54_20) y21_c0) Kb19:=by
 intro n19;induction n19 with
 | zero=>intro s54_20 y21_c0 hn; exact absurd hn.1 (by omega)
 | succ n19 ih19 =>
  intro s54_20 y21_c0 hn;rw [Z126_l19];by_cases hlt:s54_20<a1.FArgs.l.length
  ·obtain⟨h19,hh19⟩:=Qa hlt;rw [Q.drop_of hh19,Z126_q19];refine QT hlt ?_;refine Q.bindPO hh19 fun x28 hx_x28=>?_;refine Q.bindPO (Z79_eq _ _) fun x30 hx_x30=>?_;refine Q.wrapOO fun Kj25 hKj25=>?_;have hj25:∀(y26_c0:Z10),Z126_j25 s54_20 (Z126_l19 a1 a2 x3 x13 n19) y26_c0=Kj25 y26_c0:=by
    intro y26_c0;refine Qe (hKj25 _) ?_;unfold Z126_j25;all_goals exact ih19 _ _ ⟨by omega,by omega⟩
   refine Q.condO ?_ ?_
   ·refine Q.bindO (Z128_eq _ _ _ _) fun x34=>?_;refine Q.bindO rfl fun x35=>?_;all_goals exact hj25 _
   all_goals exact hj25 _
  rw [dL (by omega),Z126_q19];refine QF hlt ?_;exact hend n19 s54_20 y21_c0
def Z126_q (a0:Z10) (a1:TSel) (a2:Bs):Option (Bs×Z10):=(Z19_q a0.Fd a2 a1.FName).bind fun x3=>bif (!x3.2) then(some (([]:Bs),a0)) else((Z128_q a0 a2 a1.FName ([]:Bs)).bind fun x9=>on (Z78_q x9.Fd a2) fun x11=>on (Z77_q x11.1 a1.FName) fun x13=>Option.bind (Z126_q19 a1 a2 x13 a1.FArgs.l x9) fun y21_c0=>on (y21_c0) fun y15_c0=>some (x3.1.FName,y15_c0))
theorem Z126_eq (a0:Z10) (a1:TSel) (a2:Bs):Z126 a0 a1 a2=Z126_q a0 a1 a2:=by
 unfold Z126 Z126_q;refine Qs ?_;refine Q.bindO (Z19_eq _ _ _) fun x3=>?_;refine Q.condO ?_ ?_
 ·all_goals rfl
 refine Q.bindO (Z128_eq _ _ _ _) fun x9=>?_;refine Q.bindPO (Z78_eq _ _) fun x11 hx_x11=>?_;refine Q.bindPO (Z77_eq _ _) fun x13 hx_x13=>?_;refine Q.wrapOO fun Kb19 hKb19=>?_;refine Z126_l19_qe  Kb19 ?_ _ _ _ ⟨Nat.succ_pos _,by omega⟩;intro n19 s54_20 y21_c0;refine Qe (hKb19 _) ?_;refine Q.wrapPO fun Kj14 hKj14=>?_;have hj14:∀(y15_c0:Z10),Z126_j14 x3 y15_c0=Kj14 y15_c0:=by
  intro y15_c0;refine Qe (hKj14 _) ?_;unfold Z126_j14;all_goals rfl
 all_goals exact hj14 _
def Z127_q3 (a2:Bs) (k_rec_34:Z10->(Sl TSel)->Bs->Option Z10):List TSel->Z10->Option (Z10)
 | [],y5_c0=>some y5_c0
 | h3::r3,y5_c0=>on (h3) fun x12=>Option.bind (bif (decide (x12.FKind=(2:Int))) then(some y5_c0) else(bif (decide (x12.FKind=(3:Int))) then(Option.bind (bif (!(x12.FOn==([]:Bs))) then((Z125_q y5_c0 x12.FOn).bind fun x26=>some (x12.FOn,x26)) else(some (a2,y5_c0))) fun z19=>(k_rec_34 z19.2 x12.FSels z19.1).bind fun x22=>some x22) else((Z126_q y5_c0 x12 a2).bind fun x27=>(k_rec_34 x27.2 x12.FSels x27.1).bind fun x28=>some x28))) fun y10_c0=>Z127_q3 a2 k_rec_34 (r3) y10_c0
theorem Z127_l3_qe {a1:(Sl TSel)}{a2:Bs}{k_rec_34:Z10->(Sl TSel)->Bs->Option Z10}  (Kb3:(Z10)->Option Z10) (hend:∀(n3:Nat) (s11_4:Nat) (y5_c0:Z10),some y5_c0=Kb3 y5_c0):∀(n3:Nat) (s11_4:Nat) (y5_c0:Z10),(0<n3/\a1.l.length<s11_4+n3)->Z127_l3 a1 a2 k_rec_34 n3 s11_4 y5_c0=Option.bind (Z127_q3 a2 k_rec_34 (a1.l.drop s11_4) y5_c0) Kb3:=by
 intro n3;induction n3 with
 | zero=>intro s11_4 y5_c0 hn; exact absurd hn.1 (by omega)
 | succ n3 ih3 =>
  intro s11_4 y5_c0 hn;rw [Z127_l3];by_cases hlt:s11_4<a1.l.length
  ·obtain⟨h3,hh3⟩:=Qa hlt;rw [Q.drop_of hh3,Z127_q3];refine QT hlt ?_;refine Q.bindPO hh3 fun x12 hx_x12=>?_;refine Q.wrapOO fun Kj9 hKj9=>?_;have hj9:∀(y10_c0:Z10),Z127_j9 s11_4 (Z127_l3 a1 a2 k_rec_34 n3) y10_c0=Kj9 y10_c0:=by
    intro y10_c0;refine Qe (hKj9 _) ?_;unfold Z127_j9;all_goals exact ih3 _ _ ⟨by omega,by omega⟩
   refine Q.condO ?_ ?_
   ·all_goals exact hj9 _
   refine Q.condO ?_ ?_
   ·refine Q.wrapOO fun Kj19 hKj19=>?_;have hj19:∀(s8_20:Bs) (y21_c0:Z10),Z127_j19 s11_4 x12 (Z127_l3 a1 a2 k_rec_34 n3) k_rec_34 s8_20 y21_c0=Kj19 (s8_20,y21_c0):=by
     intro s8_20 y21_c0;refine Qe (hKj19 _) ?_;try dsimp only
     unfold Z127_j19;refine Q.bindO rfl fun x22=>?_;all_goals exact hj9 _
    refine Q.condO ?_ ?_
    ·refine Q.bindO (Z125_eq _ _) fun x26=>?_;all_goals exact hj19 _ _
    all_goals exact hj19 _ _
   refine Q.bindO (Z126_eq _ _ _) fun x27=>?_;refine Q.bindO rfl fun x28=>?_;all_goals exact hj9 _
  rw [dL (by omega),Z127_q3];refine QF hlt ?_;exact hend n3 s11_4 y5_c0
def Z127_qn:Nat->Z10->(Sl TSel)->Bs->Option Z10
 | 0,_,_,_=>none
 | n+1,a0,a1,a2=>Option.bind (Z127_q3 a2 (Z127_qn n) a1.l a0) fun y5_c0=>some y5_c0
theorem Z127_qall:∀n:Nat,Z127_n n=Z127_qn n:=by
 intro n;induction n with
 | zero=>exact(by funext a0 a1 a2; first|rfl|(rw [Z127_n,Z127_qn]))
 | succ n ih =>
  funext a0 a1 a2
  refine Qs ?_;rw [Z127_n,Z127_qn];try rw [ih]
  refine Q.wrapOO fun Kb3 hKb3=>?_;refine Z127_l3_qe  Kb3 ?_ _ _ _ ⟨Nat.succ_pos _,by omega⟩;intro n3 s11_4 y5_c0;refine Qe (hKb3 _) ?_;all_goals rfl
def Z127_q (a0:Z10) (a1:(Sl TSel)) (a2:Bs):Option Z10:=Z127_qn F0 a0 a1 a2
theorem Z127_eq (a0:Z10) (a1:(Sl TSel)) (a2:Bs):Z127 a0 a1 a2=Z127_q a0 a1 a2:=by
 unfold Z127 Z127_q; rw [(Z127_qall F0)]
def Z122_q39 (a1:Z8):List Bs->Z10->Option (Z10)
 | [],y41_id34_9=>some y41_id34_9
 | h39::r39,y41_id34_9=>on (h39) fun x47=>on (Z33_q a1 x47) fun x49=>(Z125_q y41_id34_9 x49.1.FOn).bind fun x51=>(Z127_q x51 x49.1.FSels x49.1.FOn).bind fun x52=>Z122_q39 a1 (r39) x52
theorem Z122_l39_qe {a1:Z8}{x7:TOp}{x15:((Sl Bs)×Bool)}  (Kb39:(Z10)->Option (Sl TUse)) (hend:∀(n39:Nat) (s51_40:Nat) (y41_id34_9:Z10),Z122_j16 x7  y41_id34_9=Kb39 y41_id34_9):∀(n39:Nat) (s51_40:Nat) (y41_id34_9:Z10),(0<n39/\x15.1.l.length<s51_40+n39)->Z122_l39 a1 x7 x15 n39 s51_40 y41_id34_9=Option.bind (Z122_q39 a1 (x15.1.l.drop s51_40) y41_id34_9) Kb39:=by
 intro n39;induction n39 with
 | zero=>intro s51_40 y41_id34_9 hn; exact absurd hn.1 (by omega)
 | succ n39 ih39 =>
  intro s51_40 y41_id34_9 hn;rw [Z122_l39];by_cases hlt:s51_40<x15.1.l.length
  ·obtain⟨h39,hh39⟩:=Qa hlt;rw [Q.drop_of hh39,Z122_q39];refine QT hlt ?_;refine Q.bindPO hh39 fun x47 hx_x47=>?_;refine Q.bindPO (Z33_eq _ _) fun x49 hx_x49=>?_;refine Q.bindO (Z125_eq _ _) fun x51=>?_;refine Q.bindO (Z127_eq _ _ _) fun x52=>?_;all_goals exact ih39 _ _ ⟨by omega,by omega⟩
  rw [dL (by omega),Z122_q39];refine QF hlt ?_;exact hend n39 s51_40 y41_id34_9
def Z122_q24 :List TVar->Z10->Option (Z10)
 | [],y26_id34_9=>some y26_id34_9
 | h24::r24,y26_id34_9=>on (h24) fun x33=>Option.bind (bif x33.FHas then((Z129 y26_id34_9 x33.FDefault x33.FType).bind fun x36=>some x36) else(some y26_id34_9)) fun y31_id34_9=>Z122_q24  (r24) y31_id34_9
theorem Z122_l24_qe {x7:TOp}  (Kb24:(Z10)->Option (Sl TUse)) (hend:∀(n24:Nat) (s75_25:Nat) (y26_id34_9:Z10),Z122_j18   y26_id34_9=Kb24 y26_id34_9):∀(n24:Nat) (s75_25:Nat) (y26_id34_9:Z10),(0<n24/\x7.FVars.l.length<s75_25+n24)->Z122_l24 x7 n24 s75_25 y26_id34_9=Option.bind (Z122_q24  (x7.FVars.l.drop s75_25) y26_id34_9) Kb24:=by
 intro n24;induction n24 with
 | zero=>intro s75_25 y26_id34_9 hn; exact absurd hn.1 (by omega)
 | succ n24 ih24 =>
  intro s75_25 y26_id34_9 hn;rw [Z122_l24];by_cases hlt:s75_25<x7.FVars.l.length
  ·obtain⟨h24,hh24⟩:=Qa hlt;rw [Q.drop_of hh24,Z122_q24];refine QT hlt ?_;refine Q.bindPO hh24 fun x33 hx_x33=>?_;refine Q.wrapOO fun Kj30 hKj30=>?_;have hj30:∀(y31_id34_9:Z10),Z122_j30 s75_25 (Z122_l24 x7 n24) y31_id34_9=Kj30 y31_id34_9:=by
    intro y31_id34_9;refine Qe (hKj30 _) ?_;unfold Z122_j30;all_goals exact ih24 _ _ ⟨by omega,by omega⟩
   refine Q.condO ?_ ?_
   ·refine Q.bindO rfl fun x36=>?_;all_goals exact hj30 _
   all_goals exact hj30 _
  rw [dL (by omega),Z122_q24];refine QF hlt ?_;exact hend n24 s75_25 y26_id34_9
def Z122_q (a0:TDoc) (a1:Z8) (a2:Int):Option (Sl TUse):=bif ((decide (a2<(0:Int)))||(decide (((a1.FOps.l.length:Nat):Int)<=a2))) then(some (Sl.nil:Sl TUse)) else((idxC a1.FOps.l a2).bind fun x7=>on (Z82_q x7.FKind) fun x12=>(Z127_q (Z10.mk a0 a1 (Sl.nil:Sl TUse)) x7.FSels x12).bind fun x13=>(Z34_q a1 x7.FSels).bind fun x15=>Option.bind (Z122_q39 a1 x15.1.l x13) fun y41_id34_9=>on (y41_id34_9) fun y17_id34_9=>Option.bind (Z122_q24  x7.FVars.l y17_id34_9) fun y26_id34_9=>on (y26_id34_9) fun y19_id34_9=>(Z123_q y19_id34_9.Fout).bind fun x21=>some x21)
theorem Z122_eq (a0:TDoc) (a1:Z8) (a2:Int):Z122 a0 a1 a2=Z122_q a0 a1 a2:=by
 unfold Z122 Z122_q;refine Qs ?_;refine Q.condO ?_ ?_
 ·all_goals rfl
 refine Q.bindO rfl fun x7=>?_;refine Q.bindPO (Z82_eq _) fun x12 hx_x12=>?_;refine Q.bindO (Z127_eq _ _ _) fun x13=>?_;refine Q.bindO (Z34_eq _ _) fun x15=>?_;refine Q.wrapOO fun Kb39 hKb39=>?_;refine Z122_l39_qe  Kb39 ?_ _ _ _ ⟨Nat.succ_pos _,by omega⟩;intro n39 s51_40 y41_id34_9;refine Qe (hKb39 _) ?_;refine Q.wrapPO fun Kj16 hKj16=>?_;have hj16:∀(y17_id34_9:Z10),Z122_j16 x7 y17_id34_9=Kj16 y17_id34_9:=by
  intro y17_id34_9;refine Qe (hKj16 _) ?_;unfold Z122_j16;refine Q.wrapOO fun Kb24 hKb24=>?_;refine Z122_l24_qe  Kb24 ?_ _ _ _ ⟨Nat.succ_pos _,by omega⟩;intro n24 s75_25 y26_id34_9;refine Qe (hKb24 _) ?_;refine Q.wrapPO fun Kj18 hKj18=>?_;have hj18:∀(y19_id34_9:Z10),Z122_j18  y19_id34_9=Kj18 y19_id34_9:=by
   intro y19_id34_9;refine Qe (hKj18 _) ?_;unfold Z122_j18;refine Q.bindO (Z123_eq _) fun x21=>?_;all_goals rfl
  all_goals exact hj18 _
 all_goals exact hj16 _
def Z121_q8 (a1:Bs) (a2:Bs) (a3:Bs):List TUse->Int->Int
 | [],s9_9=>s9_9
 | h8::r8,s9_9=>on (h8) fun x17=>on (bif ((((x17.FType==a1))&&((x17.FField==a2)))&&((x17.FArg==a3))) then((IntKind.wrap .i64 (s9_9+x17.FCount))) else(s9_9)) fun s9_15=>Z121_q8 a1 a2 a3 (r8) s9_15
theorem Z121_l8_qe {a0:(Sl TUse)}{a1:Bs}{a2:Bs}{a3:Bs}  (Kb8:(Int)->Option Int) (hend:∀(n8:Nat) (s9_9:Int) (s14_10:Nat),Z121_j3   s9_9=Kb8 s9_9):∀(n8:Nat) (s9_9:Int) (s14_10:Nat),(0<n8/\a0.l.length<s14_10+n8)->Z121_l8 a0 a1 a2 a3 n8 s9_9 s14_10=Kb8 (Z121_q8 a1 a2 a3 (a0.l.drop s14_10) s9_9):=by
 intro n8;induction n8 with
 | zero=>intro s9_9 s14_10 hn; exact absurd hn.1 (by omega)
 | succ n8 ih8 =>
  intro s9_9 s14_10 hn;rw [Z121_l8];by_cases hlt:s14_10<a0.l.length
  ·obtain⟨h8,hh8⟩:=Qa hlt;rw [Q.drop_of hh8,Z121_q8];refine QT hlt ?_;refine Q.bindP hh8 fun x17 hx_x17=>?_;refine Q.wrapPP fun Kj14 hKj14=>?_;have hj14:∀(s9_15:Int),Z121_j14 s14_10 (Z121_l8 a0 a1 a2 a3 n8) s9_15=Kj14 s9_15:=by
    intro s9_15;refine Qe (hKj14 _) ?_;unfold Z121_j14;all_goals exact ih8 _ _ ⟨by omega,by omega⟩
   refine Q.condP ?_ ?_
   ·all_goals exact hj14 _
   all_goals exact hj14 _
  rw [dL (by omega),Z121_q8];refine QF hlt ?_;exact hend n8 s9_9 s14_10
def Z121_q (a0:(Sl TUse)) (a1:Bs) (a2:Bs) (a3:Bs):Int:=on (Z121_q8 a1 a2 a3 a0.l (0:Int)) fun s9_9=>on (s9_9) fun s9_4=>s9_4
theorem Z121_eq (a0:(Sl TUse)) (a1:Bs) (a2:Bs) (a3:Bs):Z121 a0 a1 a2 a3=some (Z121_q a0 a1 a2 a3):=by
 unfold Z121 Z121_q;refine Q.wrapPP fun Kb8 hKb8=>?_;refine Z121_l8_qe  Kb8 ?_ _ _ _ ⟨Nat.succ_pos _,by omega⟩;intro n8 s9_9 s14_10;refine Qe (hKb8 _) ?_;refine Q.wrapPP fun Kj3 hKj3=>?_;have hj3:∀(s9_4:Int),Z121_j3  s9_4=Kj3 s9_4:=by
  intro s9_4;refine Qe (hKj3 _) ?_;unfold Z121_j3;all_goals rfl
 all_goals exact hj3 _
def Z42_q5 (a0:TDoc) (a2:Bs) (a3:(Sl TUse)) (k_rec_10:TDoc->(Sl TSel)->Bs->(Sl TUse)->Option Bool):List TSel->Option (Unit ⊕ Bool)
 | []=>some (Sum.inl ())
 | h5::r5=>on (h5) fun x21=>on (fun(_:Unit)=>Z42_q5 a0 a2 a3 k_rec_10 (r5) ) fun kj11=>bif (decide (x21.FKind=(2:Int))) then(kj11 ()) else(on (fun(s10_14:Bs)=>on (h5) fun x16=>(k_rec_10 a0 x16.FSels s10_14 a3).bind fun x17=>bif (!x17) then(some (Sum.inr false)) else(kj11 ())) fun kj13=>bif (decide (x21.FKind=(3:Int))) then(on (h5) fun x27=>bif (!(x27.FOn==([]:Bs))) then(on (h5) fun x29=>kj13 x29.FOn) else(kj13 a2)) else(on (h5) fun x32=>on (Z121_q a3 a2 x32.FName ([]:Bs)) fun x33=>bif (decide (x33<(1:Int))) then(some (Sum.inr false)) else(on (h5) fun x37=>(Z19_q a0 a2 x37.FName).bind fun x38=>kj13 x38.1.FName)))
theorem Z42_l5_qe {a0:TDoc}{a1:(Sl TSel)}{a2:Bs}{a3:(Sl TUse)}{k_rec_10:TDoc->(Sl TSel)->Bs->(Sl TUse)->Option Bool}  (Kb5:(Unit ⊕ Bool)->Option Bool) (hend:∀(n5:Nat) (s9_6:Nat),Z42_j2   =Kb5 (Sum.inl ())) (hret:∀e:Bool,some e=Kb5 (Sum.inr e)):∀(n5:Nat) (s9_6:Nat),(0<n5/\a1.l.length<s9_6+n5)->Z42_l5 a0 a1 a2 a3 k_rec_10 n5 s9_6=Option.bind (Z42_q5 a0 a2 a3 k_rec_10 (a1.l.drop s9_6) ) Kb5:=by
 intro n5;induction n5 with
 | zero=>intro s9_6 hn; exact absurd hn.1 (by omega)
 | succ n5 ih5 =>
  intro s9_6 hn;rw [Z42_l5];by_cases hlt:s9_6<a1.l.length
  ·obtain⟨h5,hh5⟩:=Qa hlt;rw [Q.drop_of hh5,Z42_q5];refine QT hlt ?_;refine Q.bindPO hh5 fun x21 hx_x21=>?_;refine Q.mixO fun kj11 hkj11=>?_;have hj11:Z42_j11 s9_6 (Z42_l5 a0 a1 a2 a3 k_rec_10 n5) =Option.bind (kj11 ()) Kb5:=by
    unfold Z42_j11;rw [hkj11];try dsimp only
    all_goals exact ih5 _ ⟨by omega,by omega⟩
   refine Q.condO ?_ ?_
   ·all_goals exact hj11
   refine Q.mixO fun kj13 hkj13=>?_;have hj13:∀(s10_14:Bs),Z42_j13 a0 a1 a3 s9_6 (Z42_l5 a0 a1 a2 a3 k_rec_10 n5) k_rec_10 s10_14=Option.bind (kj13 s10_14) Kb5:=by
    intro s10_14;unfold Z42_j13;rw [hkj13];try dsimp only
    refine Q.bindPO hh5 fun x16 hx_x16=>?_;refine Q.bindO rfl fun x17=>?_;refine Q.condO ?_ ?_
    ·all_goals exact hret _
    all_goals exact hj11
   refine Q.condO ?_ ?_
   ·refine Q.bindPO hh5 fun x27 hx_x27=>?_;refine Q.condO ?_ ?_
    ·refine Q.bindPO hh5 fun x29 hx_x29=>?_;all_goals exact hj13 _
    all_goals exact hj13 _
   refine Q.bindPO hh5 fun x32 hx_x32=>?_;refine Q.bindPO (Z121_eq _ _ _ _) fun x33 hx_x33=>?_;refine Q.condO ?_ ?_
   ·all_goals exact hret _
   refine Q.bindPO hh5 fun x37 hx_x37=>?_;refine Q.bindO (Z19_eq _ _ _) fun x38=>?_;all_goals exact hj13 _
  rw [dL (by omega),Z42_q5];refine QF hlt ?_;exact hend n5 s9_6
def Z42_qn:Nat->TDoc->(Sl TSel)->Bs->(Sl TUse)->Option Bool
 | 0,_,_,_,_=>none
 | n+1,a0,a1,a2,a3=>Option.bind (Z42_q5 a0 a2 a3 (Z42_qn n) a1.l ) fun o5=>match o5 with|Sum.inl _=>(on (()) fun _=>some true)|Sum.inr e5=>(some e5)
theorem Z42_qall:∀n:Nat,Z42_n n=Z42_qn n:=by
 intro n;induction n with
 | zero=>exact(by funext a0 a1 a2 a3; first|rfl|(rw [Z42_n,Z42_qn]))
 | succ n ih =>
  funext a0 a1 a2 a3
  refine Qs ?_;rw [Z42_n,Z42_qn];try rw [ih]
  refine Q.wrapOO fun Kb5 hKb5=>?_;refine Z42_l5_qe  Kb5 ?_ ?_ _ _ ⟨Nat.succ_pos _,by omega⟩
  ·intro n5 s9_6;refine Qe (hKb5 _) ?_;try dsimp only
   refine Q.wrapPO fun Kj2 hKj2=>?_;have hj2:Z42_j2  =Kj2 ():=by
    refine Qe (hKj2 _) ?_;unfold Z42_j2;all_goals rfl
   all_goals exact hj2
  intro e5;refine Qe (hKb5 _) ?_;try dsimp only
  all_goals rfl
def Z42_q (a0:TDoc) (a1:(Sl TSel)) (a2:Bs) (a3:(Sl TUse)):Option Bool:=Z42_qn F0 a0 a1 a2 a3
theorem Z42_eq (a0:TDoc) (a1:(Sl TSel)) (a2:Bs) (a3:(Sl TUse)):Z42 a0 a1 a2 a3=Z42_q a0 a1 a2 a3:=by
 unfold Z42 Z42_q; rw [(Z42_qall F0)]
end Go.Proofs
