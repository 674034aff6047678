import Derived.Test.YtfmbgiahleepfabGreatDoorV4
set_option maxRecDepth 100000
set_option maxHeartbeats 2000000
set_option linter.unusedVariables false
set_option linter.unusedSimpArgs false
namespace Go.Proofs
open Go Go.Ab
def Z65_q36 :List Z4->Int->Option (Int)
 | [],s3_37=>some s3_37
 | h36::r36,s3_37=>on (h36) fun x44=>on (h36) fun x45=>(addC ((x44.FArgs.l.length:Nat):Int) ((x45.FDirs.l.length:Nat):Int)).bind fun x46=>(addC s3_37 x46).bind fun x47=>Z65_q36  (r36) x47
theorem Z65_l36_qe {s4_14:Nat}{x22:TDef}{k_next_12:Int->Nat->Option Bool}  (Kb36:(Int)->Option Bool) (hend:∀(n36:Nat) (s3_37:Int) (s6_38:Nat),Z65_j19 s4_14 k_next_12 s3_37=Kb36 s3_37):∀(n36:Nat) (s3_37:Int) (s6_38:Nat),(0<n36/\x22.FFields.l.length<s6_38+n36)->Z65_l36 s4_14 x22 k_next_12 n36 s3_37 s6_38=Option.bind (Z65_q36  (x22.FFields.l.drop s6_38) s3_37) Kb36:=by
 intro n36;induction n36 with
 | zero=>intro s3_37 s6_38 hn; exact absurd hn.1 (by omega)
 | succ n36 ih36 =>
  intro s3_37 s6_38 hn;rw [Z65_l36];by_cases hlt:s6_38<x22.FFields.l.length
  ·obtain⟨h36,hh36⟩:=Qa hlt;rw [Q.drop_of hh36,Z65_q36];refine QT hlt ?_;refine Q.bindPO hh36 fun x44 hx_x44=>?_;refine Q.bindPO hh36 fun x45 hx_x45=>?_;refine Q.bindO rfl fun x46=>?_;refine Q.bindO rfl fun x47=>?_;all_goals exact ih36 _ _ ⟨by omega,by omega⟩
  rw [dL (by omega),Z65_q36];refine QF hlt ?_;exact hend n36 s3_37 s6_38
def Z65_q12 :List TDef->Int->Option (Int)
 | [],s3_13=>some s3_13
 | h12::r12,s3_13=>on (h12) fun x22=>(addC (1:Int) ((x22.FFields.l.length:Nat):Int)).bind fun x25=>(addC x25 ((x22.FMembers.l.length:Nat):Int)).bind fun x27=>(addC x27 ((x22.FInputs.l.length:Nat):Int)).bind fun x29=>(addC x29 ((x22.FDirs.l.length:Nat):Int)).bind fun x31=>(addC x31 ((x22.FImplements.l.length:Nat):Int)).bind fun x33=>(addC s3_13 x33).bind fun x34=>Option.bind (Z65_q36  x22.FFields.l x34) fun s3_37=>on (s3_37) fun s3_20=>Z65_q12  (r12) s3_20
theorem Z65_l12_qe {a0:TDoc}  (Kb12:(Int)->Option Bool) (hend:∀(n12:Nat) (s3_13:Int) (s4_14:Nat),Z65_j8   s3_13=Kb12 s3_13):∀(n12:Nat) (s3_13:Int) (s4_14:Nat),(0<n12/\a0.FDefs.l.length<s4_14+n12)->Z65_l12 a0 n12 s3_13 s4_14=Option.bind (Z65_q12  (a0.FDefs.l.drop s4_14) s3_13) Kb12:=by
 intro n12;induction n12 with
 | zero=>intro s3_13 s4_14 hn; exact absurd hn.1 (by omega)
 | succ n12 ih12 =>
  intro s3_13 s4_14 hn;rw [Z65_l12];by_cases hlt:s4_14<a0.FDefs.l.length
  ·obtain⟨h12,hh12⟩:=Qa hlt;rw [Q.drop_of hh12,Z65_q12];refine QT hlt ?_;refine Q.bindPO hh12 fun x22 hx_x22=>?_;refine Q.bindO rfl fun x25=>?_;refine Q.bindO rfl fun x27=>?_;refine Q.bindO rfl fun x29=>?_;refine Q.bindO rfl fun x31=>?_;refine Q.bindO rfl fun x33=>?_;refine Q.bindO rfl fun x34=>?_;refine Q.wrapOO fun Kb36 hKb36=>?_;refine Z65_l36_qe  Kb36 ?_ _ _ _ ⟨Nat.succ_pos _,by omega⟩;intro n36 s3_37 s6_38
   refine Qe (hKb36 _) ?_;refine Q.wrapPO fun Kj19 hKj19=>?_;have hj19:∀(s3_20:Int),Z65_j19 s4_14 (Z65_l12 a0 n12) s3_20=Kj19 s3_20:=by
    intro s3_20;refine Qe (hKj19 _) ?_;unfold Z65_j19;all_goals exact ih12 _ _ ⟨by omega,by omega⟩
   all_goals exact hj19 _
  rw [dL (by omega),Z65_q12];refine QF hlt ?_;exact hend n12 s3_13 s4_14
def Z65_q (a0:TDoc):Option Bool:=bif (decide ((70:Int)<((a0.FDefs.l.length:Nat):Int))) then(some true) else(Option.bind (Z65_q12  a0.FDefs.l (0:Int)) fun s3_13=>on (s3_13) fun s3_9=>some (decide ((1000:Int)<s3_9)))
theorem Z65_eq (a0:TDoc):Z65 a0=Z65_q a0:=by
 unfold Z65 Z65_q;refine Qs ?_;refine Q.condO ?_ ?_
 ·all_goals rfl
 refine Q.wrapOO fun Kb12 hKb12=>?_;refine Z65_l12_qe  Kb12 ?_ _ _ _ ⟨Nat.succ_pos _,by omega⟩;intro n12 s3_13 s4_14;refine Qe (hKb12 _) ?_;refine Q.wrapPO fun Kj8 hKj8=>?_;have hj8:∀(s3_9:Int),Z65_j8  s3_9=Kj8 s3_9:=by
  intro s3_9;refine Qe (hKj8 _) ?_;unfold Z65_j8;all_goals rfl
 all_goals exact hj8 _
def Z42_q (a0:Int):Bool:=((((decide ((65:Int)<=a0))&&(decide (a0<=(90:Int))))||((decide ((97:Int)<=a0))&&(decide (a0<=(122:Int)))))||(decide (a0=(95:Int))))
theorem Z42_eq (a0:Int):Z42 a0=some (Z42_q a0):=by
 unfold Z42 Z42_q;all_goals rfl
def Z41_q (a0:Int):Bool:=((decide ((48:Int)<=a0))&&(decide (a0<=(57:Int))))
theorem Z41_eq (a0:Int):Z41 a0=some (Z41_q a0):=by
 unfold Z41 Z41_q;all_goals rfl
def Z40_q10 :List UInt8->Nat->Unit ⊕ Bool
 | [],s3_11=>Sum.inl ()
 | h10::r10,s3_11=>on (h10) fun x18=>on (Z42_q ((x18.toNat:Nat):Int)) fun x19=>on (bif ((!x19)&&!(decide (((s3_11:Nat):Int)=(0:Int)))) then h10 else(0:UInt8)) fun x20=>on (bif ((!x19)&&!(decide (((s3_11:Nat):Int)=(0:Int)))) then Z41_q ((x20.toNat:Nat):Int) else false) fun x21=>bif ((!x19)&&((decide (((s3_11:Nat):Int)=(0:Int)))||(!x21))) then(Sum.inr false) else(Z40_q10  (r10) (s3_11+1) )
theorem Z40_l10_qe {a0:Bs}  (Kb10:(Unit ⊕ Bool)->Option Bool) (hend:∀(n10:Nat) (s3_11:Nat),Z40_j7   =Kb10 (Sum.inl ())) (hret:∀e:Bool,some e=Kb10 (Sum.inr e)):∀(n10:Nat) (s3_11:Nat),(0<n10/\a0.length<s3_11+n10)->Z40_l10 a0 n10 s3_11=Kb10 (Z40_q10  (a0.drop s3_11) s3_11 ):=by
 intro n10;induction n10 with
 | zero=>intro s3_11 hn; exact absurd hn.1 (by omega)
 | succ n10 ih10 =>
  intro s3_11 hn;rw [Z40_l10];by_cases hlt:s3_11<a0.length
  ·obtain⟨h10,hh10⟩:=Qa hlt;rw [Q.drop_of hh10,Z40_q10];refine QT hlt ?_;refine Q.bindP hh10 fun x18 hx_x18=>?_;refine Q.bindP (Z42_eq _) fun x19 hx_x19=>?_;refine Q.guardP hh10 fun x20 hx_x20=>?_;refine Q.guardP (Z41_eq _) fun x21 hx_x21=>?_;refine Q.condP ?_ ?_
   ·all_goals exact hret _
   all_goals exact ih10 _ ⟨by omega,by omega⟩
  rw [dL (by omega),Z40_q10];refine QF hlt ?_;exact hend n10 s3_11
def Z40_q (a0:Bs):Bool:=bif ((decide (((a0.length:Nat):Int)<(1:Int)))||(decide ((64:Int)<((a0.length:Nat):Int)))) then(false) else(on (Z40_q10  a0 0 ) fun o10=>match o10 with|Sum.inl _=>(on (()) fun _=>true)|Sum.inr e10=>(e10))
theorem Z40_eq (a0:Bs):Z40 a0=some (Z40_q a0):=by
 unfold Z40 Z40_q;refine Q.condP ?_ ?_
 ·all_goals rfl
 refine Q.wrapPP fun Kb10 hKb10=>?_;refine Z40_l10_qe  Kb10 ?_ ?_ _ _ ⟨Nat.succ_pos _,by omega⟩
 ·intro n10 s3_11;refine Qe (hKb10 _) ?_;try dsimp only
  refine Q.wrapPP fun Kj7 hKj7=>?_;have hj7:Z40_j7  =Kj7 ():=by
   refine Qe (hKj7 _) ?_;unfold Z40_j7;all_goals rfl
  all_goals exact hj7
 intro e10;refine Qe (hKb10 _) ?_;try dsimp only
 all_goals rfl
def Z45_q7 (k_rec_7:Z9->Option Int):List Z9->Int->Option (Int)
 | [],s3_8=>some s3_8
 | h7::r7,s3_8=>on (h7) fun x15=>(k_rec_7 x15).bind fun x16=>(addC s3_8 x16).bind fun x17=>Z45_q7 k_rec_7 (r7) x17
theorem Z45_l7_qe {a0:Z9}{k_rec_7:Z9->Option Int}  (Kb7:(Int)->Option Int) (hend:∀(n7:Nat) (s3_8:Int) (s4_9:Nat),Z45_j3   s3_8=Kb7 s3_8):∀(n7:Nat) (s3_8:Int) (s4_9:Nat),(0<n7/\a0.FItems.l.length<s4_9+n7)->Z45_l7 a0 k_rec_7 n7 s3_8 s4_9=Option.bind (Z45_q7 k_rec_7 (a0.FItems.l.drop s4_9) s3_8) Kb7:=by
 intro n7;induction n7 with
 | zero=>intro s3_8 s4_9 hn; exact absurd hn.1 (by omega)
 | succ n7 ih7 =>
  intro s3_8 s4_9 hn;rw [Z45_l7];by_cases hlt:s4_9<a0.FItems.l.length
  ·obtain⟨h7,hh7⟩:=Qa hlt;rw [Q.drop_of hh7,Z45_q7];refine QT hlt ?_;refine Q.bindPO hh7 fun x15 hx_x15=>?_;refine Q.bindO rfl fun x16=>?_;refine Q.bindO rfl fun x17=>?_;all_goals exact ih7 _ _ ⟨by omega,by omega⟩
  rw [dL (by omega),Z45_q7];refine QF hlt ?_;exact hend n7 s3_8 s4_9
def Z45_qn:Nat->Z9->Option Int
 | 0,_=>none
 | n+1,a0=>Option.bind (Z45_q7 (Z45_qn n) a0.FItems.l (1:Int)) fun s3_8=>on (s3_8) fun s3_4=>some s3_4
theorem Z45_qall:∀n:Nat,Z45_n n=Z45_qn n:=by
 intro n;induction n with
 | zero=>exact(by funext a0; first|rfl|(rw [Z45_n,Z45_qn]))
 | succ n ih =>
  funext a0
  refine Qs ?_;rw [Z45_n,Z45_qn];try rw [ih]
  refine Q.wrapOO fun Kb7 hKb7=>?_;refine Z45_l7_qe  Kb7 ?_ _ _ _ ⟨Nat.succ_pos _,by omega⟩;intro n7 s3_8 s4_9;refine Qe (hKb7 _) ?_;refine Q.wrapPO fun Kj3 hKj3=>?_;have hj3:∀(s3_4:Int),Z45_j3  s3_4=Kj3 s3_4:=by
   intro s3_4;refine Qe (hKj3 _) ?_;unfold Z45_j3;all_goals rfl
  all_goals exact hj3 _
def Z45_q (a0:Z9):Option Int:=Z45_qn F0 a0
theorem Z45_eq (a0:Z9):Z45 a0=Z45_q a0:=by
 unfold Z45 Z45_q; rw [(Z45_qall F0)]
def Z43_q8 (k_rec_20:Z9->Option Int):List Z9->Int->Option (Int)
 | [],s3_9=>some s3_9
 | h8::r8,s3_9=>on (h8) fun x16=>(k_rec_20 x16).bind fun x17=>Z43_q8 k_rec_20 (r8) (if x17>s3_9 then x17 else s3_9)
theorem Z43_l8_qe {a0:Z9}{k_rec_20:Z9->Option Int}  (Kb8:(Int)->Option Int) (hend:∀(n8:Nat) (s3_9:Int) (s4_10:Nat),Z43_j3   s3_9=Kb8 s3_9):∀(n8:Nat) (s3_9:Int) (s4_10:Nat),(0<n8/\a0.FItems.l.length<s4_10+n8)->Z43_l8 a0 k_rec_20 n8 s3_9 s4_10=Option.bind (Z43_q8 k_rec_20 (a0.FItems.l.drop s4_10) s3_9) Kb8:=by
 intro n8;induction n8 with
 | zero=>intro s3_9 s4_10 hn; exact absurd hn.1 (by omega)
 | succ n8 ih8 =>
  intro s3_9 s4_10 hn;rw [Z43_l8];by_cases hlt:s4_10<a0.FItems.l.length
  ·obtain⟨h8,hh8⟩:=Qa hlt;rw [Q.drop_of hh8,Z43_q8];refine QT hlt ?_;refine Q.bindPO hh8 fun x16 hx_x16=>?_;refine Q.bindO rfl fun x17=>?_;all_goals exact ih8 _ _ ⟨by omega,by omega⟩
  rw [dL (by omega),Z43_q8];refine QF hlt ?_;exact hend n8 s3_9 s4_10
def Z43_qn:Nat->Z9->Option Int
 | 0,_=>none
 | n+1,a0=>Option.bind (Z43_q8 (Z43_qn n) a0.FItems.l (0:Int)) fun s3_9=>on (s3_9) fun s3_4=>(addC s3_4 (1:Int)).bind fun x6=>some x6
theorem Z43_qall:∀n:Nat,Z43_n n=Z43_qn n:=by
 intro n;induction n with
 | zero=>exact(by funext a0; first|rfl|(rw [Z43_n,Z43_qn]))
 | succ n ih =>
  funext a0
  refine Qs ?_;rw [Z43_n,Z43_qn];try rw [ih]
  refine Q.wrapOO fun Kb8 hKb8=>?_;refine Z43_l8_qe  Kb8 ?_ _ _ _ ⟨Nat.succ_pos _,by omega⟩;intro n8 s3_9 s4_10;refine Qe (hKb8 _) ?_;refine Q.wrapPO fun Kj3 hKj3=>?_;have hj3:∀(s3_4:Int),Z43_j3  s3_4=Kj3 s3_4:=by
   intro s3_4;refine Qe (hKj3 _) ?_;unfold Z43_j3;refine Q.bindO rfl fun x6=>?_;all_goals rfl
  all_goals exact hj3 _
def Z43_q (a0:Z9):Option Int:=Z43_qn F0 a0
theorem Z43_eq (a0:Z9):Z43 a0=Z43_q a0:=by
 unfold Z43 Z43_q; rw [(Z43_qall F0)]
def Z47_q13 (a0:(Sl Bs)) (h5:Bs):Nat->Nat->Option (Unit ⊕ Bool)
 | 0,s4_14=>some (Sum.inl ())
 | r13+1,s4_14=>on (h5) fun x20=>(a0.l[s4_14]?).bind fun x21=>bif ((x20==x21)) then(some (Sum.inr true)) else(Z47_q13 a0 h5 (r13) (s4_14+1) )
theorem Z47_l13_qe {a0:(Sl Bs)}{s3_6:Nat}{k_next_5:Nat->Option Bool}{h5:Bs}(hh5:a0.l[s3_6]?=some h5) (Kb13:(Unit ⊕ Bool)->Option Bool) (hend:∀(n13:Nat) (s4_14:Nat),Z47_j11 s3_6 k_next_5 =Kb13 (Sum.inl ())) (hret:∀e:Bool,some e=Kb13 (Sum.inr e)):∀(n13:Nat) (s4_14:Nat),(0<n13/\s3_6<s4_14+n13)->Z47_l13 a0 s3_6 k_next_5 n13 s4_14=Option.bind (Z47_q13 a0 h5 (s3_6-s4_14) s4_14 ) Kb13:=by
 intro n13;induction n13 with
 | zero=>intro s4_14 hn; exact absurd hn.1 (by omega)
 | succ n13 ih13 =>
  intro s4_14 hn;rw [Z47_l13];by_cases hlt:s4_14<s3_6
  ·rw [show s3_6-s4_14=(s3_6-(s4_14+1))+1 by omega,Z47_q13];refine QT hlt ?_;refine Q.bindPO hh5 fun x20 hx_x20=>?_;refine Q.bindO rfl fun x21=>?_;refine Q.condO ?_ ?_
   ·all_goals exact hret _
   all_goals exact ih13 _ ⟨by omega,by omega⟩
  rw [show s3_6-s4_14=0 by omega,Z47_q13];refine QF hlt ?_;exact hend n13 s4_14
def Z47_q5 (a0:(Sl Bs)):List Bs->Nat->Option (Unit ⊕ Bool)
 | [],s3_6=>some (Sum.inl ())
 | h5::r5,s3_6=>Option.bind (Z47_q13 a0 h5 s3_6 0 ) fun o13=>match o13 with|Sum.inl _=>(on (()) fun _=>Z47_q5 a0 (r5) (s3_6+1) )|Sum.inr e13=>(some (Sum.inr e13))
theorem Z47_l5_qe {a0:(Sl Bs)}  (Kb5:(Unit ⊕ Bool)->Option Bool) (hend:∀(n5:Nat) (s3_6:Nat),Z47_j2   =Kb5 (Sum.inl ())) (hret:∀e:Bool,some e=Kb5 (Sum.inr e)):∀(n5:Nat) (s3_6:Nat),(0<n5/\a0.l.length<s3_6+n5)->Z47_l5 a0 n5 s3_6=Option.bind (Z47_q5 a0 (a0.l.drop s3_6) s3_6 ) Kb5:=by
 intro n5;induction n5 with
 | zero=>intro s3_6 hn; exact absurd hn.1 (by omega)
 | succ n5 ih5 =>
  intro s3_6 hn;rw [Z47_l5];by_cases hlt:s3_6<a0.l.length
  ·obtain⟨h5,hh5⟩:=Qa hlt;rw [Q.drop_of hh5,Z47_q5];refine QT hlt ?_;refine Q.wrapOO fun Kb13 hKb13=>?_;refine Z47_l13_qe hh5 Kb13 ?_ ?_ _ _ ⟨Nat.succ_pos _,by omega⟩
   ·intro n13 s4_14;refine Qe (hKb13 _) ?_;try dsimp only
    refine Q.wrapPO fun Kj11 hKj11=>?_;have hj11:Z47_j11 s3_6 (Z47_l5 a0 n5) =Kj11 ():=by
     refine Qe (hKj11 _) ?_;unfold Z47_j11;all_goals exact ih5 _ ⟨by omega,by omega⟩
    all_goals exact hj11
   intro e13;refine Qe (hKb13 _) ?_;try dsimp only
   all_goals exact hret _
  rw [dL (by omega),Z47_q5];refine QF hlt ?_;exact hend n5 s3_6
def Z47_q (a0:(Sl Bs)):Option Bool:=Option.bind (Z47_q5 a0 a0.l 0 ) fun o5=>match o5 with|Sum.inl _=>(on (()) fun _=>some false)|Sum.inr e5=>(some e5)
theorem Z47_eq (a0:(Sl Bs)):Z47 a0=Z47_q a0:=by
 unfold Z47 Z47_q;refine Qs ?_;refine Q.wrapOO fun Kb5 hKb5=>?_;refine Z47_l5_qe  Kb5 ?_ ?_ _ _ ⟨Nat.succ_pos _,by omega⟩
 ·intro n5 s3_6;refine Qe (hKb5 _) ?_;try dsimp only
  refine Q.wrapPO fun Kj2 hKj2=>?_;have hj2:Z47_j2  =Kj2 ():=by
   refine Qe (hKj2 _) ?_;unfold Z47_j2;all_goals rfl
  all_goals exact hj2
 intro e5;refine Qe (hKb5 _) ?_;try dsimp only
 all_goals rfl
def Z46_q (a0:Z9) (a1:Bool):Option Bool:=bif (decide (a0.FKind=(0:Int))) then(some ((((decide (a0.FInt=(0:Int)))&&((a0.FText==([]:Bs))))&&(decide (((a0.FItems.l.length:Nat):Int)=(0:Int))))&&(decide (((a0.FKeys.l.length:Nat):Int)=(0:Int))))) else(bif (decide (a0.FKind=(1:Int))) then(some (((((decide (a0.FInt=(0:Int)))||(decide (a0.FInt=(1:Int))))&&((a0.FText==([]:Bs))))&&(decide (((a0.FItems.l.length:Nat):Int)=(0:Int))))&&(decide (((a0.FKeys.l.length:Nat):Int)=(0:Int))))) else(bif (decide (a0.FKind=(2:Int))) then(some ((((a0.FText==([]:Bs)))&&(decide (((a0.FItems.l.length:Nat):Int)=(0:Int))))&&(decide (((a0.FKeys.l.length:Nat):Int)=(0:Int))))) else(bif (decide (a0.FKind=(3:Int))) then(some (((decide (a0.FInt=(0:Int)))&&(decide (((a0.FItems.l.length:Nat):Int)=(0:Int))))&&(decide (((a0.FKeys.l.length:Nat):Int)=(0:Int))))) else(bif (decide (a0.FKind=(4:Int))) then(on (bif (((decide (a0.FInt=(0:Int)))&&(decide (((a0.FItems.l.length:Nat):Int)=(0:Int))))&&(decide (((a0.FKeys.l.length:Nat):Int)=(0:Int)))) then Z40_q a0.FText else false) fun x19=>some (((((((decide (a0.FInt=(0:Int)))&&(decide (((a0.FItems.l.length:Nat):Int)=(0:Int))))&&(decide (((a0.FKeys.l.length:Nat):Int)=(0:Int))))&&x19)&&(!(a0.FText==([116,114,117,101]:Bs))))&&(!(a0.FText==([102,97,108,115,101]:Bs))))&&(!(a0.FText==([110,117,108,108]:Bs))))) else(bif (decide (a0.FKind=(5:Int))) then(some (((decide (a0.FInt=(0:Int)))&&((a0.FText==([]:Bs))))&&(decide (((a0.FKeys.l.length:Nat):Int)=(0:Int))))) else(bif (decide (a0.FKind=(6:Int))) then(guardO ((((decide (a0.FInt=(0:Int)))&&((a0.FText==([]:Bs))))&&(decide (((a0.FKeys.l.length:Nat):Int)=((a0.FItems.l.length:Nat):Int))))) (Z47_q a0.FKeys) false fun x26=>some ((((decide (a0.FInt=(0:Int)))&&((a0.FText==([]:Bs))))&&(decide (((a0.FKeys.l.length:Nat):Int)=((a0.FItems.l.length:Nat):Int))))&&(!x26))) else(bif (decide (a0.FKind=(7:Int))) then(on (bif (((a1&&(decide (a0.FInt=(0:Int))))&&(decide (((a0.FItems.l.length:Nat):Int)=(0:Int))))&&(decide (((a0.FKeys.l.length:Nat):Int)=(0:Int)))) then Z40_q a0.FText else false) fun x30=>some ((((a1&&(decide (a0.FInt=(0:Int))))&&(decide (((a0.FItems.l.length:Nat):Int)=(0:Int))))&&(decide (((a0.FKeys.l.length:Nat):Int)=(0:Int))))&&x30)) else(some false))))))))
theorem Z46_eq (a0:Z9) (a1:Bool):Z46 a0 a1=Z46_q a0 a1:=by
 unfold Z46 Z46_q;refine Qs ?_;refine Q.condO ?_ ?_
 ·all_goals rfl
 refine Q.condO ?_ ?_
 ·all_goals rfl
 refine Q.condO ?_ ?_
 ·all_goals rfl
 refine Q.condO ?_ ?_
 ·all_goals rfl
 refine Q.condO ?_ ?_
 ·refine Q.guardPO (Z40_eq _) fun x19 hx_x19=>?_;all_goals rfl
 refine Q.condO ?_ ?_
 ·all_goals rfl
 refine Q.condO ?_ ?_
 ·refine Q.guardOO (Z47_eq _) fun x26=>?_;all_goals rfl
 refine Q.condO ?_ ?_
 ·refine Q.guardPO (Z40_eq _) fun x30 hx_x30=>?_;all_goals rfl
 all_goals rfl
def Z48_q24 (a1:Bool):List Bs->Unit ⊕ Bool
 | []=>Sum.inl ()
 | h24::r24=>on (bif a1 then h24 else([]:Bs)) fun x32=>on (bif a1 then Z40_q x32 else false) fun x33=>bif (a1&&(!x33)) then(Sum.inr false) else(Z48_q24 a1 (r24) )
theorem Z48_l24_qe {a0:Z9}{a1:Bool}{k_rec_21:Z9->Bool->Option Bool}  (Kb24:(Unit ⊕ Bool)->Option Bool) (hend:∀(n24:Nat) (s5_25:Nat),Z48_j7 a0 a1 k_rec_21 =Kb24 (Sum.inl ())) (hret:∀e:Bool,some e=Kb24 (Sum.inr e)):∀(n24:Nat) (s5_25:Nat),(0<n24/\a0.FKeys.l.length<s5_25+n24)->Z48_l24 a0 a1 k_rec_21 n24 s5_25=Kb24 (Z48_q24 a1 (a0.FKeys.l.drop s5_25) ):=by
 intro n24;induction n24 with
 | zero=>intro s5_25 hn; exact absurd hn.1 (by omega)
 | succ n24 ih24 =>
  intro s5_25 hn;rw [Z48_l24];by_cases hlt:s5_25<a0.FKeys.l.length
  ·obtain⟨h24,hh24⟩:=Qa hlt;rw [Q.drop_of hh24,Z48_q24];refine QT hlt ?_;refine Q.guardP hh24 fun x32 hx_x32=>?_;refine Q.guardP (Z40_eq _) fun x33 hx_x33=>?_;refine Q.condP ?_ ?_
   ·all_goals exact hret _
   all_goals exact ih24 _ ⟨by omega,by omega⟩
  rw [dL (by omega),Z48_q24];refine QF hlt ?_;exact hend n24 s5_25
def Z48_q11 (a1:Bool) (k_rec_21:Z9->Bool->Option Bool):List Z9->Option (Unit ⊕ Bool)
 | []=>some (Sum.inl ())
 | h11::r11=>on (h11) fun x19=>(k_rec_21 x19 a1).bind fun x20=>bif (!x20) then(some (Sum.inr false)) else(Z48_q11 a1 k_rec_21 (r11) )
theorem Z48_l11_qe {a0:Z9}{a1:Bool}{k_rec_21:Z9->Bool->Option Bool}  (Kb11:(Unit ⊕ Bool)->Option Bool) (hend:∀(n11:Nat) (s6_12:Nat),Z48_j8   =Kb11 (Sum.inl ())) (hret:∀e:Bool,some e=Kb11 (Sum.inr e)):∀(n11:Nat) (s6_12:Nat),(0<n11/\a0.FItems.l.length<s6_12+n11)->Z48_l11 a0 a1 k_rec_21 n11 s6_12=Option.bind (Z48_q11 a1 k_rec_21 (a0.FItems.l.drop s6_12) ) Kb11:=by
 intro n11;induction n11 with
 | zero=>intro s6_12 hn; exact absurd hn.1 (by omega)
 | succ n11 ih11 =>
  intro s6_12 hn;rw [Z48_l11];by_cases hlt:s6_12<a0.FItems.l.length
  ·obtain⟨h11,hh11⟩:=Qa hlt;rw [Q.drop_of hh11,Z48_q11];refine QT hlt ?_;refine Q.bindPO hh11 fun x19 hx_x19=>?_;refine Q.bindO rfl fun x20=>?_;refine Q.condO ?_ ?_
   ·all_goals exact hret _
   all_goals exact ih11 _ ⟨by omega,by omega⟩
  rw [dL (by omega),Z48_q11];refine QF hlt ?_;exact hend n11 s6_12
def Z48_qn:Nat->Z9->Bool->Option Bool
 | 0,_,_=>none
 | n+1,a0,a1=>(Z46_q a0 a1).bind fun x4=>bif (!x4) then(some false) else(on (Z48_q24 a1 a0.FKeys.l ) fun o24=>match o24 with|Sum.inl _=>(on (()) fun _=>Option.bind (Z48_q11 a1 (Z48_qn n) a0.FItems.l ) fun o11=>match o11 with|Sum.inl _=>(on (()) fun _=>some true)|Sum.inr e11=>(some e11))|Sum.inr e24=>(some e24))
theorem Z48_qall:∀n:Nat,Z48_n n=Z48_qn n:=by
 intro n;induction n with
 | zero=>exact(by funext a0 a1; first|rfl|(rw [Z48_n,Z48_qn]))
 | succ n ih =>
  funext a0 a1
  refine Qs ?_;rw [Z48_n,Z48_qn];try rw [ih]
  refine Q.bindO (Z46_eq _ _) fun x4=>?_;refine Q.condO ?_ ?_
  ·all_goals rfl
  refine Q.wrapPO fun Kb24 hKb24=>?_;refine Z48_l24_qe  Kb24 ?_ ?_ _ _ ⟨Nat.succ_pos _,by omega⟩
  ·intro n24 s5_25;refine Qe (hKb24 _) ?_;try dsimp only
   refine Q.wrapPO fun Kj7 hKj7=>?_;have hj7:Z48_j7 a0 a1 (Z48_qn n) =Kj7 ():=by
    refine Qe (hKj7 _) ?_;unfold Z48_j7;refine Q.wrapOO fun Kb11 hKb11=>?_;refine Z48_l11_qe  Kb11 ?_ ?_ _ _ ⟨Nat.succ_pos _,by omega⟩
    ·intro n11 s6_12;refine Qe (hKb11 _) ?_;try dsimp only
     refine Q.wrapPO fun Kj8 hKj8=>?_;have hj8:Z48_j8  =Kj8 ():=by
      refine Qe (hKj8 _) ?_;unfold Z48_j8;all_goals rfl
     all_goals exact hj8
    intro e11;refine Qe (hKb11 _) ?_;try dsimp only
    all_goals rfl
   all_goals exact hj7
  intro e24;refine Qe (hKb24 _) ?_;try dsimp only
  all_goals rfl
def Z48_q (a0:Z9) (a1:Bool):Option Bool:=Z48_qn F0 a0 a1
theorem Z48_eq (a0:Z9) (a1:Bool):Z48 a0 a1=Z48_q a0 a1:=by
 unfold Z48 Z48_q; rw [(Z48_qall F0)]
def Z44_q (a0:Z9):Option Bool:=(Z45_q a0).bind fun x3=>guardO ((decide (x3<=(4096:Int)))) (Z43_q a0) (0:Int) fun x4=>guardO (((decide (x3<=(4096:Int)))&&(decide (x4<=(24:Int))))) (Z48_q a0 true) false fun x5=>some (((decide (x3<=(4096:Int)))&&(decide (x4<=(24:Int))))&&x5)
theorem Z44_eq (a0:Z9):Z44 a0=Z44_q a0:=by
 unfold Z44 Z44_q;refine Qs ?_;refine Q.bindO (Z45_eq _) fun x3=>?_;refine Q.guardOO (Z43_eq _) fun x4=>?_;refine Q.guardOO (Z48_eq _ _) fun x5=>?_;all_goals rfl
def Z57_q5 (k_rec_72:Z9->Option Bool):List Z9->Option (Unit ⊕ Bool)
 | []=>some (Sum.inl ())
 | h5::r5=>on (h5) fun x13=>(k_rec_72 x13).bind fun x14=>bif (!x14) then(some (Sum.inr false)) else(Z57_q5 k_rec_72 (r5) )
theorem Z57_l5_qe {a0:Z9}{k_rec_72:Z9->Option Bool}  (Kb5:(Unit ⊕ Bool)->Option Bool) (hend:∀(n5:Nat) (s3_6:Nat),Z57_j2 a0  =Kb5 (Sum.inl ())) (hret:∀e:Bool,some e=Kb5 (Sum.inr e)):∀(n5:Nat) (s3_6:Nat),(0<n5/\a0.FItems.l.length<s3_6+n5)->Z57_l5 a0 k_rec_72 n5 s3_6=Option.bind (Z57_q5 k_rec_72 (a0.FItems.l.drop s3_6) ) Kb5:=by
 intro n5;induction n5 with
 | zero=>intro s3_6 hn; exact absurd hn.1 (by omega)
 | succ n5 ih5 =>
  intro s3_6 hn;rw [Z57_l5];by_cases hlt:s3_6<a0.FItems.l.length
  ·obtain⟨h5,hh5⟩:=Qa hlt;rw [Q.drop_of hh5,Z57_q5];refine QT hlt ?_;refine Q.bindPO hh5 fun x13 hx_x13=>?_;refine Q.bindO rfl fun x14=>?_;refine Q.condO ?_ ?_
   ·all_goals exact hret _
   all_goals exact ih5 _ ⟨by omega,by omega⟩
  rw [dL (by omega),Z57_q5];refine QF hlt ?_;exact hend n5 s3_6
def Z57_qn:Nat->Z9->Option Bool
 | 0,_=>none
 | n+1,a0=>Option.bind (Z57_q5 (Z57_qn n) a0.FItems.l ) fun o5=>match o5 with|Sum.inl _=>(on (()) fun _=>some (!decide (a0.FKind=(7:Int))))|Sum.inr e5=>(some e5)
theorem Z57_qall:∀n:Nat,Z57_n n=Z57_qn n:=by
 intro n;induction n with
 | zero=>exact(by funext a0; first|rfl|(rw [Z57_n,Z57_qn]))
 | succ n ih =>
  funext a0
  refine Qs ?_;rw [Z57_n,Z57_qn];try rw [ih]
  refine Q.wrapOO fun Kb5 hKb5=>?_;refine Z57_l5_qe  Kb5 ?_ ?_ _ _ ⟨Nat.succ_pos _,by omega⟩
  ·intro n5 s3_6;refine Qe (hKb5 _) ?_;try dsimp only
   refine Q.wrapPO fun Kj2 hKj2=>?_;have hj2:Z57_j2 a0 =Kj2 ():=by
    refine Qe (hKj2 _) ?_;unfold Z57_j2;all_goals rfl
   all_goals exact hj2
  intro e5;refine Qe (hKb5 _) ?_;try dsimp only
  all_goals rfl
def Z57_q (a0:Z9):Option Bool:=Z57_qn F0 a0
theorem Z57_eq (a0:Z9):Z57 a0=Z57_q a0:=by
 unfold Z57 Z57_q; rw [(Z57_qall F0)]
def Z59_q25 (h10:TDir):List TArg->Option (Unit ⊕ Bool)
 | []=>some (Sum.inl ())
 | h25::r25=>on (h10) fun x34=>on (h25) fun x35=>on (Z40_q x35.FName) fun x37=>guardO (!(!x37)) (Z44_q x35.FValue) false fun x38=>guardO (!((!x37)||(!x38))) (Z57_q x35.FValue) false fun x39=>bif (((!x37)||(!x38))||(!x39)) then(some (Sum.inr false)) else(Z59_q25 h10 (r25) )
theorem Z59_l25_qe {a0:(Sl TDir)}{s3_11:Nat}{k_next_10:Nat->Option Bool}{h10:TDir}(hh10:a0.l[s3_11]?=some h10) (Kb25:(Unit ⊕ Bool)->Option Bool) (hend:∀(n25:Nat) (s4_26:Nat),Z59_j16 s3_11 k_next_10 =Kb25 (Sum.inl ())) (hret:∀e:Bool,some e=Kb25 (Sum.inr e)):∀(n25:Nat) (s4_26:Nat),(0<n25/\h10.FArgs.l.length<s4_26+n25)->Z59_l25 a0 s3_11 k_next_10 n25 s4_26=Option.bind (Z59_q25 h10 (h10.FArgs.l.drop s4_26) ) Kb25:=by
 intro n25;induction n25 with
 | zero=>intro s4_26 hn; exact absurd hn.1 (by omega)
 | succ n25 ih25 =>
  intro s4_26 hn;rw [Z59_l25];refine Q.preB hh10 fun x29 hx_x29=>?_;subst hx_x29;by_cases hlt:s4_26<x29.FArgs.l.length
  ·obtain⟨h25,hh25⟩:=Qa hlt;rw [Q.drop_of hh25,Z59_q25];refine QT hlt ?_;refine Q.bindPO hh10 fun x34 hx_x34=>?_;refine Q.bindPO (by first|exact hh25|(simp only [hx_x34]; exact hh25)|(simp only [hx_x34] at hh25 ⊢; exact hh25)) fun x35 hx_x35=>?_;refine Q.bindPO (Z40_eq _) fun x37 hx_x37=>?_;refine Q.guardOO (Z44_eq _) fun x38=>?_;refine Q.guardOO (Z57_eq _) fun x39=>?_;refine Q.condO ?_ ?_
   ·all_goals exact hret _
   all_goals exact ih25 _ ⟨by omega,by omega⟩
  rw [dL (by omega),Z59_q25];refine QF hlt ?_;exact hend n25 s4_26
def Z59_q10 :List TDir->Option (Unit ⊕ Bool)
 | []=>some (Sum.inl ())
 | h10::r10=>on (h10) fun x19=>on (Z40_q x19.FName) fun x20=>on (bif !(!x20) then h10 else TDir.zero) fun x21=>bif ((!x20)||(decide ((16:Int)<((x21.FArgs.l.length:Nat):Int)))) then(some (Sum.inr false)) else(Option.bind (Z59_q25 h10 h10.FArgs.l ) fun o25=>match o25 with|Sum.inl _=>(on (()) fun _=>Z59_q10  (r10) )|Sum.inr e25=>(some (Sum.inr e25)))
theorem Z59_l10_qe {a0:(Sl TDir)}  (Kb10:(Unit ⊕ Bool)->Option Bool) (hend:∀(n10:Nat) (s3_11:Nat),Z59_j7   =Kb10 (Sum.inl ())) (hret:∀e:Bool,some e=Kb10 (Sum.inr e)):∀(n10:Nat) (s3_11:Nat),(0<n10/\a0.l.length<s3_11+n10)->Z59_l10 a0 n10 s3_11=Option.bind (Z59_q10  (a0.l.drop s3_11) ) Kb10:=by
 intro n10;induction n10 with
 | zero=>intro s3_11 hn; exact absurd hn.1 (by omega)
 | succ n10 ih10 =>
  intro s3_11 hn;rw [Z59_l10];by_cases hlt:s3_11<a0.l.length
  ·obtain⟨h10,hh10⟩:=Qa hlt;rw [Q.drop_of hh10,Z59_q10];refine QT hlt ?_;refine Q.bindPO hh10 fun x19 hx_x19=>?_;refine Q.bindPO (Z40_eq _) fun x20 hx_x20=>?_;refine Q.guardPO hh10 fun x21 hx_x21=>?_;refine Q.condO ?_ ?_
   ·all_goals exact hret _
   refine Q.wrapOO fun Kb25 hKb25=>?_;refine Z59_l25_qe hh10 Kb25 ?_ ?_ _ _ ⟨by rw [hh10]; exact Nat.succ_pos _,by rw [hh10]; simp only [Option.elim]; omega⟩
   ·intro n25 s4_26;refine Qe (hKb25 _) ?_;try dsimp only
    refine Q.wrapPO fun Kj16 hKj16=>?_;have hj16:Z59_j16 s3_11 (Z59_l10 a0 n10) =Kj16 ():=by
     refine Qe (hKj16 _) ?_;unfold Z59_j16;all_goals exact ih10 _ ⟨by omega,by omega⟩
    all_goals exact hj16
   intro e25;refine Qe (hKb25 _) ?_;try dsimp only
   all_goals exact hret _
  rw [dL (by omega),Z59_q10];refine QF hlt ?_;exact hend n10 s3_11
def Z59_q (a0:(Sl TDir)):Option Bool:=bif (decide ((16:Int)<((a0.l.length:Nat):Int))) then(some false) else(Option.bind (Z59_q10  a0.l ) fun o10=>match o10 with|Sum.inl _=>(on (()) fun _=>some true)|Sum.inr e10=>(some e10))
theorem Z59_eq (a0:(Sl TDir)):Z59 a0=Z59_q a0:=by
 unfold Z59 Z59_q;refine Qs ?_;refine Q.condO ?_ ?_
 ·all_goals rfl
 refine Q.wrapOO fun Kb10 hKb10=>?_;refine Z59_l10_qe  Kb10 ?_ ?_ _ _ ⟨Nat.succ_pos _,by omega⟩
 ·intro n10 s3_11;refine Qe (hKb10 _) ?_;try dsimp only
  refine Q.wrapPO fun Kj7 hKj7=>?_;have hj7:Z59_j7  =Kj7 ():=by
   refine Qe (hKj7 _) ?_;unfold Z59_j7;all_goals rfl
  all_goals exact hj7
 intro e10;refine Qe (hKb10 _) ?_;try dsimp only
 all_goals rfl
def Z52_q10 (a0:TRef):List Int->Nat->Option (Unit ⊕ Bool)
 | [],s3_11=>some (Sum.inl ())
 | h10::r10,s3_11=>on (h10) fun x19=>on (bif (!decide (x19=(1:Int))) then h10 else(0:Int)) fun x20=>bif ((!decide (x19=(1:Int)))&&(!decide (x20=(2:Int)))) then(some (Sum.inr false)) else(on (bif (decide ((0:Int)<((s3_11:Nat):Int))) then h10 else(0:Int)) fun x24=>guardO (((decide ((0:Int)<((s3_11:Nat):Int)))&&(decide (x24=(1:Int))))) (subC ((s3_11:Nat):Int) (1:Int)) (0:Int) fun x25=>guardO (((decide ((0:Int)<((s3_11:Nat):Int)))&&(decide (x24=(1:Int))))) (idxC a0.FWraps.l x25) (0:Int) fun x26=>bif (((decide ((0:Int)<((s3_11:Nat):Int)))&&(decide (x24=(1:Int))))&&(decide (x26=(1:Int)))) then(some (Sum.inr false)) else(Z52_q10 a0 (r10) (s3_11+1) ))
theorem Z52_l10_qe {a0:TRef}  (Kb10:(Unit ⊕ Bool)->Option Bool) (hend:∀(n10:Nat) (s3_11:Nat),Z52_j7   =Kb10 (Sum.inl ())) (hret:∀e:Bool,some e=Kb10 (Sum.inr e)):∀(n10:Nat) (s3_11:Nat),(0<n10/\a0.FWraps.l.length<s3_11+n10)->Z52_l10 a0 n10 s3_11=Option.bind (Z52_q10 a0 (a0.FWraps.l.drop s3_11) s3_11 ) Kb10:=by
 intro n10;induction n10 with
 | zero=>intro s3_11 hn; exact absurd hn.1 (by omega)
 | succ n10 ih10 =>
  intro s3_11 hn;rw [Z52_l10];by_cases hlt:s3_11<a0.FWraps.l.length
  ·obtain⟨h10,hh10⟩:=Qa hlt;rw [Q.drop_of hh10,Z52_q10];refine QT hlt ?_;refine Q.bindPO hh10 fun x19 hx_x19=>?_;refine Q.guardPO hh10 fun x20 hx_x20=>?_;refine Q.condO ?_ ?_
   ·all_goals exact hret _
   refine Q.guardPO hh10 fun x24 hx_x24=>?_;refine Q.guardOO rfl fun x25=>?_;refine Q.guardOO rfl fun x26=>?_;refine Q.condO ?_ ?_
   ·all_goals exact hret _
   all_goals exact ih10 _ ⟨by omega,by omega⟩
  rw [dL (by omega),Z52_q10];refine QF hlt ?_;exact hend n10 s3_11
def Z52_q (a0:TRef):Option Bool:=on (Z40_q a0.FName) fun x4=>bif ((!x4)||(decide ((24:Int)<((a0.FWraps.l.length:Nat):Int)))) then(some false) else(Option.bind (Z52_q10 a0 a0.FWraps.l 0 ) fun o10=>match o10 with|Sum.inl _=>(on (()) fun _=>some true)|Sum.inr e10=>(some e10))
theorem Z52_eq (a0:TRef):Z52 a0=Z52_q a0:=by
 unfold Z52 Z52_q;refine Qs ?_;refine Q.bindPO (Z40_eq _) fun x4 hx_x4=>?_;refine Q.condO ?_ ?_
 ·all_goals rfl
 refine Q.wrapOO fun Kb10 hKb10=>?_;refine Z52_l10_qe  Kb10 ?_ ?_ _ _ ⟨Nat.succ_pos _,by omega⟩
 ·intro n10 s3_11;refine Qe (hKb10 _) ?_;try dsimp only
  refine Q.wrapPO fun Kj7 hKj7=>?_;have hj7:Z52_j7  =Kj7 ():=by
   refine Qe (hKj7 _) ?_;unfold Z52_j7;all_goals rfl
  all_goals exact hj7
 intro e10;refine Qe (hKb10 _) ?_;try dsimp only
 all_goals rfl
def Z63_q (a0:Z9):Bool:=(((((decide (a0.FKind=(0:Int)))&&(decide (a0.FInt=(0:Int))))&&((a0.FText==([]:Bs))))&&(decide (((a0.FItems.l.length:Nat):Int)=(0:Int))))&&(decide (((a0.FKeys.l.length:Nat):Int)=(0:Int))))
theorem Z63_eq (a0:Z9):Z63 a0=some (Z63_q a0):=by
 unfold Z63 Z63_q;all_goals rfl
def Z61_q10 :List Z6->Option (Unit ⊕ Bool)
 | []=>some (Sum.inl ())
 | h10::r10=>on (h10) fun x18=>on (Z40_q x18.FName) fun x21=>guardO (!(!x21)) (Z52_q x18.FType) false fun x22=>guardO (!((!x21)||(!x22))) (Z59_q x18.FDirs) false fun x23=>bif (((!x21)||(!x22))||(!x23)) then(some (Sum.inr false)) else(guardO (x18.FHas) (Z44_q x18.FDefault) false fun x27=>guardO ((x18.FHas&&!(!x27))) (Z57_q x18.FDefault) false fun x28=>on (bif (!(x18.FHas&&((!x27)||(!x28)))&&(!x18.FHas)) then Z63_q x18.FDefault else false) fun x29=>bif ((x18.FHas&&((!x27)||(!x28)))||((!x18.FHas)&&(!x29))) then(some (Sum.inr false)) else(Z61_q10  (r10) ))
theorem Z61_l10_qe {a0:(Sl Z6)}  (Kb10:(Unit ⊕ Bool)->Option Bool) (hend:∀(n10:Nat) (s3_11:Nat),Z61_j7   =Kb10 (Sum.inl ())) (hret:∀e:Bool,some e=Kb10 (Sum.inr e)):∀(n10:Nat) (s3_11:Nat),(0<n10/\a0.l.length<s3_11+n10)->Z61_l10 a0 n10 s3_11=Option.bind (Z61_q10  (a0.l.drop s3_11) ) Kb10:=by
 intro n10;induction n10 with
 | zero=>intro s3_11 hn; exact absurd hn.1 (by omega)
 | succ n10 ih10 =>
  intro s3_11 hn;rw [Z61_l10];by_cases hlt:s3_11<a0.l.length
  ·obtain⟨h10,hh10⟩:=Qa hlt;rw [Q.drop_of hh10,Z61_q10];refine QT hlt ?_;refine Q.bindPO hh10 fun x18 hx_x18=>?_;refine Q.bindPO (Z40_eq _) fun x21 hx_x21=>?_;refine Q.guardOO (Z52_eq _) fun x22=>?_;refine Q.guardOO (Z59_eq _) fun x23=>?_;refine Q.condO ?_ ?_
   ·all_goals exact hret _
   refine Q.guardOO (Z44_eq _) fun x27=>?_;refine Q.guardOO (Z57_eq _) fun x28=>?_;refine Q.guardPO (Z63_eq _) fun x29 hx_x29=>?_;refine Q.condO ?_ ?_
   ·all_goals exact hret _
   all_goals exact ih10 _ ⟨by omega,by omega⟩
  rw [dL (by omega),Z61_q10];refine QF hlt ?_;exact hend n10 s3_11
def Z61_q (a0:(Sl Z6)):Option Bool:=bif (decide ((16:Int)<((a0.l.length:Nat):Int))) then(some false) else(Option.bind (Z61_q10  a0.l ) fun o10=>match o10 with|Sum.inl _=>(on (()) fun _=>some true)|Sum.inr e10=>(some e10))
theorem Z61_eq (a0:(Sl Z6)):Z61 a0=Z61_q a0:=by
 unfold Z61 Z61_q;refine Qs ?_;refine Q.condO ?_ ?_
 ·all_goals rfl
 refine Q.wrapOO fun Kb10 hKb10=>?_;refine Z61_l10_qe  Kb10 ?_ ?_ _ _ ⟨Nat.succ_pos _,by omega⟩
 ·intro n10 s3_11;refine Qe (hKb10 _) ?_;try dsimp only
  refine Q.wrapPO fun Kj7 hKj7=>?_;have hj7:Z61_j7  =Kj7 ():=by
   refine Qe (hKj7 _) ?_;unfold Z61_j7;all_goals rfl
  all_goals exact hj7
 intro e10;refine Qe (hKb10 _) ?_;try dsimp only
 all_goals rfl
def Z60_q10 :List Z4->Option (Unit ⊕ Bool)
 | []=>some (Sum.inl ())
 | h10::r10=>on (h10) fun x18=>on (Z40_q x18.FName) fun x19=>on (bif !(!x19) then h10 else Z4.zero) fun x20=>guardO (!(!x19)) (Z61_q x20.FArgs) false fun x21=>on (bif !((!x19)||(!x21)) then h10 else Z4.zero) fun x22=>guardO (!((!x19)||(!x21))) (Z52_q x22.FType) false fun x23=>on (bif !(((!x19)||(!x21))||(!x23)) then h10 else Z4.zero) fun x24=>guardO (!(((!x19)||(!x21))||(!x23))) (Z59_q x24.FDirs) false fun x25=>bif ((((!x19)||(!x21))||(!x23))||(!x25)) then(some (Sum.inr false)) else(Z60_q10  (r10) )
theorem Z60_l10_qe {a0:(Sl Z4)}  (Kb10:(Unit ⊕ Bool)->Option Bool) (hend:∀(n10:Nat) (s3_11:Nat),Z60_j7   =Kb10 (Sum.inl ())) (hret:∀e:Bool,some e=Kb10 (Sum.inr e)):∀(n10:Nat) (s3_11:Nat),(0<n10/\a0.l.length<s3_11+n10)->Z60_l10 a0 n10 s3_11=Option.bind (Z60_q10  (a0.l.drop s3_11) ) Kb10:=by
 intro n10;induction n10 with
 | zero=>intro s3_11 hn; exact absurd hn.1 (by omega)
 | succ n10 ih10 =>
  intro s3_11 hn;rw [Z60_l10];by_cases hlt:s3_11<a0.l.length
  ·obtain⟨h10,hh10⟩:=Qa hlt;rw [Q.drop_of hh10,Z60_q10];refine QT hlt ?_;refine Q.bindPO hh10 fun x18 hx_x18=>?_;refine Q.bindPO (Z40_eq _) fun x19 hx_x19=>?_;refine Q.guardPO hh10 fun x20 hx_x20=>?_;refine Q.guardOO (Z61_eq _) fun x21=>?_;refine Q.guardPO hh10 fun x22 hx_x22=>?_;refine Q.guardOO (Z52_eq _) fun x23=>?_;refine Q.guardPO hh10 fun x24 hx_x24=>?_;refine Q.guardOO (Z59_eq _) fun x25=>?_
   refine Q.condO ?_ ?_
   ·all_goals exact hret _
   all_goals exact ih10 _ ⟨by omega,by omega⟩
  rw [dL (by omega),Z60_q10];refine QF hlt ?_;exact hend n10 s3_11
def Z60_q (a0:(Sl Z4)):Option Bool:=bif ((decide (((a0.l.length:Nat):Int)<(1:Int)))||(decide ((64:Int)<((a0.l.length:Nat):Int)))) then(some false) else(Option.bind (Z60_q10  a0.l ) fun o10=>match o10 with|Sum.inl _=>(on (()) fun _=>some true)|Sum.inr e10=>(some e10))
theorem Z60_eq (a0:(Sl Z4)):Z60 a0=Z60_q a0:=by
 unfold Z60 Z60_q;refine Qs ?_;refine Q.condO ?_ ?_
 ·all_goals rfl
 refine Q.wrapOO fun Kb10 hKb10=>?_;refine Z60_l10_qe  Kb10 ?_ ?_ _ _ ⟨Nat.succ_pos _,by omega⟩
 ·intro n10 s3_11;refine Qe (hKb10 _) ?_;try dsimp only
  refine Q.wrapPO fun Kj7 hKj7=>?_;have hj7:Z60_j7  =Kj7 ():=by
   refine Qe (hKj7 _) ?_;unfold Z60_j7;all_goals rfl
  all_goals exact hj7
 intro e10;refine Qe (hKb10 _) ?_;try dsimp only
 all_goals rfl
def Z62_q10 (a1:Bool):List Z7->Option (Unit ⊕ Bool)
 | []=>some (Sum.inl ())
 | h10::r10=>on (h10) fun x18=>on (Z40_q x18.FName) fun x19=>on (bif !(!x19) then h10 else Z7.zero) fun x20=>guardO (!(!x19)) (Z59_q x20.FDirs) false fun x21=>on (bif (!((!x19)||(!x21))&&a1) then h10 else Z7.zero) fun x22=>bif (((!x19)||(!x21))||(a1&&(decide ((0:Int)<((x22.FDirs.l.length:Nat):Int))))) then(some (Sum.inr false)) else(Z62_q10 a1 (r10) )
theorem Z62_l10_qe {a0:(Sl Z7)}{a1:Bool}  (Kb10:(Unit ⊕ Bool)->Option Bool) (hend:∀(n10:Nat) (s5_11:Nat),Z62_j7   =Kb10 (Sum.inl ())) (hret:∀e:Bool,some e=Kb10 (Sum.inr e)):∀(n10:Nat) (s5_11:Nat),(0<n10/\a0.l.length<s5_11+n10)->Z62_l10 a0 a1 n10 s5_11=Option.bind (Z62_q10 a1 (a0.l.drop s5_11) ) Kb10:=by
 intro n10;induction n10 with
 | zero=>intro s5_11 hn; exact absurd hn.1 (by omega)
 | succ n10 ih10 =>
  intro s5_11 hn;rw [Z62_l10];by_cases hlt:s5_11<a0.l.length
  ·obtain⟨h10,hh10⟩:=Qa hlt;rw [Q.drop_of hh10,Z62_q10];refine QT hlt ?_;refine Q.bindPO hh10 fun x18 hx_x18=>?_;refine Q.bindPO (Z40_eq _) fun x19 hx_x19=>?_;refine Q.guardPO hh10 fun x20 hx_x20=>?_;refine Q.guardOO (Z59_eq _) fun x21=>?_;refine Q.guardPO hh10 fun x22 hx_x22=>?_;refine Q.condO ?_ ?_
   ·all_goals exact hret _
   all_goals exact ih10 _ ⟨by omega,by omega⟩
  rw [dL (by omega),Z62_q10];refine QF hlt ?_;exact hend n10 s5_11
def Z62_q (a0:(Sl Z7)) (a1:Bool):Option Bool:=bif ((decide (((a0.l.length:Nat):Int)<(1:Int)))||(decide ((64:Int)<((a0.l.length:Nat):Int)))) then(some false) else(Option.bind (Z62_q10 a1 a0.l ) fun o10=>match o10 with|Sum.inl _=>(on (()) fun _=>some true)|Sum.inr e10=>(some e10))
theorem Z62_eq (a0:(Sl Z7)) (a1:Bool):Z62 a0 a1=Z62_q a0 a1:=by
 unfold Z62 Z62_q;refine Qs ?_;refine Q.condO ?_ ?_
 ·all_goals rfl
 refine Q.wrapOO fun Kb10 hKb10=>?_;refine Z62_l10_qe  Kb10 ?_ ?_ _ _ ⟨Nat.succ_pos _,by omega⟩
 ·intro n10 s5_11;refine Qe (hKb10 _) ?_;try dsimp only
  refine Q.wrapPO fun Kj7 hKj7=>?_;have hj7:Z62_j7  =Kj7 ():=by
   refine Qe (hKj7 _) ?_;unfold Z62_j7;all_goals rfl
  all_goals exact hj7
 intro e10;refine Qe (hKb10 _) ?_;try dsimp only
 all_goals rfl
def Z58_q34 :List Bs->Unit ⊕ Bool
 | []=>Sum.inl ()
 | h34::r34=>on (h34) fun x42=>on (Z40_q x42) fun x43=>bif (!x43) then(Sum.inr false) else(Z58_q34  (r34) )
theorem Z58_l34_qe {a0:TDef}  (Kb34:(Unit ⊕ Bool)->Option Bool) (hend:∀(n34:Nat) (s3_35:Nat),Z58_j8 a0  =Kb34 (Sum.inl ())) (hret:∀e:Bool,some e=Kb34 (Sum.inr e)):∀(n34:Nat) (s3_35:Nat),(0<n34/\a0.FImplements.l.length<s3_35+n34)->Z58_l34 a0 n34 s3_35=Kb34 (Z58_q34  (a0.FImplements.l.drop s3_35) ):=by
 intro n34;induction n34 with
 | zero=>intro s3_35 hn; exact absurd hn.1 (by omega)
 | succ n34 ih34 =>
  intro s3_35 hn;rw [Z58_l34];by_cases hlt:s3_35<a0.FImplements.l.length
  ·obtain⟨h34,hh34⟩:=Qa hlt;rw [Q.drop_of hh34,Z58_q34];refine QT hlt ?_;refine Q.bindP hh34 fun x42 hx_x42=>?_;refine Q.bindP (Z40_eq _) fun x43 hx_x43=>?_;refine Q.condP ?_ ?_
   ·all_goals exact hret _
   all_goals exact ih34 _ ⟨by omega,by omega⟩
  rw [dL (by omega),Z58_q34];refine QF hlt ?_;exact hend n34 s3_35
def Z58_q (a0:TDef):Option Bool:=on (Z40_q a0.FName) fun x4=>guardO (!(!x4)) (Z59_q a0.FDirs) false fun x5=>bif (((!x4)||(!x5))||(decide ((64:Int)<((a0.FImplements.l.length:Nat):Int)))) then(some false) else(on (Z58_q34  a0.FImplements.l ) fun o34=>match o34 with|Sum.inl _=>(on (()) fun _=>bif (decide (a0.FKind=(1:Int))) then((Z60_q a0.FFields).bind fun x15=>some ((x15&&(decide (((a0.FMembers.l.length:Nat):Int)=(0:Int))))&&(decide (((a0.FInputs.l.length:Nat):Int)=(0:Int))))) else(bif (decide (a0.FKind=(2:Int))) then(guardO ((decide (((a0.FImplements.l.length:Nat):Int)=(0:Int)))) (Z60_q a0.FFields) false fun x19=>some ((((decide (((a0.FImplements.l.length:Nat):Int)=(0:Int)))&&x19)&&(decide (((a0.FMembers.l.length:Nat):Int)=(0:Int))))&&(decide (((a0.FInputs.l.length:Nat):Int)=(0:Int))))) else(bif (decide (a0.FKind=(3:Int))) then(guardO (((decide (((a0.FImplements.l.length:Nat):Int)=(0:Int)))&&(decide (((a0.FFields.l.length:Nat):Int)=(0:Int))))) (Z62_q a0.FMembers true) false fun x23=>some ((((decide (((a0.FImplements.l.length:Nat):Int)=(0:Int)))&&(decide (((a0.FFields.l.length:Nat):Int)=(0:Int))))&&x23)&&(decide (((a0.FInputs.l.length:Nat):Int)=(0:Int))))) else(bif (decide (a0.FKind=(4:Int))) then(guardO (((decide (((a0.FImplements.l.length:Nat):Int)=(0:Int)))&&(decide (((a0.FFields.l.length:Nat):Int)=(0:Int))))) (Z62_q a0.FMembers false) false fun x27=>some ((((decide (((a0.FImplements.l.length:Nat):Int)=(0:Int)))&&(decide (((a0.FFields.l.length:Nat):Int)=(0:Int))))&&x27)&&(decide (((a0.FInputs.l.length:Nat):Int)=(0:Int))))) else(bif (decide (a0.FKind=(5:Int))) then(guardO (((((decide (((a0.FImplements.l.length:Nat):Int)=(0:Int)))&&(decide (((a0.FFields.l.length:Nat):Int)=(0:Int))))&&(decide (((a0.FMembers.l.length:Nat):Int)=(0:Int))))&&(decide ((0:Int)<((a0.FInputs.l.length:Nat):Int))))) (Z61_q a0.FInputs) false fun x31=>some (((((decide (((a0.FImplements.l.length:Nat):Int)=(0:Int)))&&(decide (((a0.FFields.l.length:Nat):Int)=(0:Int))))&&(decide (((a0.FMembers.l.length:Nat):Int)=(0:Int))))&&(decide ((0:Int)<((a0.FInputs.l.length:Nat):Int))))&&x31)) else(some false))))))|Sum.inr e34=>(some e34))
theorem Z58_eq (a0:TDef):Z58 a0=Z58_q a0:=by
 unfold Z58 Z58_q;refine Qs ?_;refine Q.bindPO (Z40_eq _) fun x4 hx_x4=>?_;refine Q.guardOO (Z59_eq _) fun x5=>?_;refine Q.condO ?_ ?_
 ·all_goals rfl
 refine Q.wrapPO fun Kb34 hKb34=>?_;refine Z58_l34_qe  Kb34 ?_ ?_ _ _ ⟨Nat.succ_pos _,by omega⟩
 ·intro n34 s3_35;refine Qe (hKb34 _) ?_;try dsimp only
  refine Q.wrapPO fun Kj8 hKj8=>?_;have hj8:Z58_j8 a0 =Kj8 ():=by
   refine Qe (hKj8 _) ?_;unfold Z58_j8;refine Q.condO ?_ ?_
   ·refine Q.bindO (Z60_eq _) fun x15=>?_;all_goals rfl
   refine Q.condO ?_ ?_
   ·refine Q.guardOO (Z60_eq _) fun x19=>?_;all_goals rfl
   refine Q.condO ?_ ?_
   ·refine Q.guardOO (Z62_eq _ _) fun x23=>?_;all_goals rfl
   refine Q.condO ?_ ?_
   ·refine Q.guardOO (Z62_eq _ _) fun x27=>?_;all_goals rfl
   refine Q.condO ?_ ?_
   ·refine Q.guardOO (Z61_eq _) fun x31=>?_;all_goals rfl
   all_goals rfl
  all_goals exact hj8
 intro e34;refine Qe (hKb34 _) ?_;try dsimp only
 all_goals rfl
def Z56_q10 :List TDef->Option (Unit ⊕ Bool)
 | []=>some (Sum.inl ())
 | h10::r10=>on (h10) fun x18=>(Z58_q x18).bind fun x19=>bif (!x19) then(some (Sum.inr false)) else(Z56_q10  (r10) )
theorem Z56_l10_qe {a0:TDoc}  (Kb10:(Unit ⊕ Bool)->Option Bool) (hend:∀(n10:Nat) (s3_11:Nat),Z56_j7   =Kb10 (Sum.inl ())) (hret:∀e:Bool,some e=Kb10 (Sum.inr e)):∀(n10:Nat) (s3_11:Nat),(0<n10/\a0.FDefs.l.length<s3_11+n10)->Z56_l10 a0 n10 s3_11=Option.bind (Z56_q10  (a0.FDefs.l.drop s3_11) ) Kb10:=by
 intro n10;induction n10 with
 | zero=>intro s3_11 hn; exact absurd hn.1 (by omega)
 | succ n10 ih10 =>
  intro s3_11 hn;rw [Z56_l10];by_cases hlt:s3_11<a0.FDefs.l.length
  ·obtain⟨h10,hh10⟩:=Qa hlt;rw [Q.drop_of hh10,Z56_q10];refine QT hlt ?_;refine Q.bindPO hh10 fun x18 hx_x18=>?_;refine Q.bindO (Z58_eq _) fun x19=>?_;refine Q.condO ?_ ?_
   ·all_goals exact hret _
   all_goals exact ih10 _ ⟨by omega,by omega⟩
  rw [dL (by omega),Z56_q10];refine QF hlt ?_;exact hend n10 s3_11
def Z56_q (a0:TDoc):Option Bool:=bif ((decide (((a0.FDefs.l.length:Nat):Int)<(1:Int)))||(decide ((64:Int)<((a0.FDefs.l.length:Nat):Int)))) then(some false) else(Option.bind (Z56_q10  a0.FDefs.l ) fun o10=>match o10 with|Sum.inl _=>(on (()) fun _=>some true)|Sum.inr e10=>(some e10))
theorem Z56_eq (a0:TDoc):Z56 a0=Z56_q a0:=by
 unfold Z56 Z56_q;refine Qs ?_;refine Q.condO ?_ ?_
 ·all_goals rfl
 refine Q.wrapOO fun Kb10 hKb10=>?_;refine Z56_l10_qe  Kb10 ?_ ?_ _ _ ⟨Nat.succ_pos _,by omega⟩
 ·intro n10 s3_11;refine Qe (hKb10 _) ?_;try dsimp only
  refine Q.wrapPO fun Kj7 hKj7=>?_;have hj7:Z56_j7  =Kj7 ():=by
   refine Qe (hKj7 _) ?_;unfold Z56_j7;all_goals rfl
  all_goals exact hj7
 intro e10;refine Qe (hKb10 _) ?_;try dsimp only
 all_goals rfl
def Z37_q5 (k_rec_9:Z9->Option Bool):List Z9->Option (Unit ⊕ Bool)
 | []=>some (Sum.inl ())
 | h5::r5=>on (h5) fun x13=>(k_rec_9 x13).bind fun x14=>bif (!x14) then(some (Sum.inr false)) else(Z37_q5 k_rec_9 (r5) )
theorem Z37_l5_qe {a0:Z9}{k_rec_9:Z9->Option Bool}  (Kb5:(Unit ⊕ Bool)->Option Bool) (hend:∀(n5:Nat) (s3_6:Nat),Z37_j2 a0  =Kb5 (Sum.inl ())) (hret:∀e:Bool,some e=Kb5 (Sum.inr e)):∀(n5:Nat) (s3_6:Nat),(0<n5/\a0.FItems.l.length<s3_6+n5)->Z37_l5 a0 k_rec_9 n5 s3_6=Option.bind (Z37_q5 k_rec_9 (a0.FItems.l.drop s3_6) ) Kb5:=by
 intro n5;induction n5 with
 | zero=>intro s3_6 hn; exact absurd hn.1 (by omega)
 | succ n5 ih5 =>
  intro s3_6 hn;rw [Z37_l5];by_cases hlt:s3_6<a0.FItems.l.length
  ·obtain⟨h5,hh5⟩:=Qa hlt;rw [Q.drop_of hh5,Z37_q5];refine QT hlt ?_;refine Q.bindPO hh5 fun x13 hx_x13=>?_;refine Q.bindO rfl fun x14=>?_;refine Q.condO ?_ ?_
   ·all_goals exact hret _
   all_goals exact ih5 _ ⟨by omega,by omega⟩
  rw [dL (by omega),Z37_q5];refine QF hlt ?_;exact hend n5 s3_6
def Z37_qn:Nat->Z9->Option Bool
 | 0,_=>none
 | n+1,a0=>Option.bind (Z37_q5 (Z37_qn n) a0.FItems.l ) fun o5=>match o5 with|Sum.inl _=>(on (()) fun _=>some (!decide (a0.FKind=(7:Int))))|Sum.inr e5=>(some e5)
theorem Z37_qall:∀n:Nat,Z37_n n=Z37_qn n:=by
 intro n;induction n with
 | zero=>exact(by funext a0; first|rfl|(rw [Z37_n,Z37_qn]))
 | succ n ih =>
  funext a0
  refine Qs ?_;rw [Z37_n,Z37_qn];try rw [ih]
  refine Q.wrapOO fun Kb5 hKb5=>?_;refine Z37_l5_qe  Kb5 ?_ ?_ _ _ ⟨Nat.succ_pos _,by omega⟩
  ·intro n5 s3_6;refine Qe (hKb5 _) ?_;try dsimp only
   refine Q.wrapPO fun Kj2 hKj2=>?_;have hj2:Z37_j2 a0 =Kj2 ():=by
    refine Qe (hKj2 _) ?_;unfold Z37_j2;all_goals rfl
   all_goals exact hj2
  intro e5;refine Qe (hKb5 _) ?_;try dsimp only
  all_goals rfl
def Z37_q (a0:Z9):Option Bool:=Z37_qn F0 a0
theorem Z37_eq (a0:Z9):Z37 a0=Z37_q a0:=by
 unfold Z37 Z37_q; rw [(Z37_qall F0)]
def Z50_q (a0:Bs):TRef:=(TRef.mk a0 (Sl.nil:Sl Int))
theorem Z50_eq (a0:Bs):Z50 a0=some (Z50_q a0):=by
 unfold Z50 Z50_q;all_goals rfl
def Z69_q7 (a1:Bs):List TDef->Unit ⊕ ((TDef×Bool))
 | []=>Sum.inl ()
 | h7::r7=>on (h7) fun x15=>bif ((x15.FName==a1)) then(Sum.inr (x15,true)) else(Z69_q7 a1 (r7) )
theorem Z69_l7_qe {a0:TDoc}{a1:Bs}  (Kb7:(Unit ⊕ ((TDef×Bool)))->Option (TDef×Bool)) (hend:∀(n7:Nat) (s11_8:Nat) (y9_l0:TDef),Z69_j2   y9_l0=Kb7 (Sum.inl ())) (hret:∀e:(TDef×Bool),some e=Kb7 (Sum.inr e)):∀(n7:Nat) (s11_8:Nat) (y9_l0:TDef),(0<n7/\a0.FDefs.l.length<s11_8+n7)->Z69_l7 a0 a1 n7 s11_8 y9_l0=Kb7 (Z69_q7 a1 (a0.FDefs.l.drop s11_8) ):=by
 intro n7;induction n7 with
 | zero=>intro s11_8 y9_l0 hn; exact absurd hn.1 (by omega)
 | succ n7 ih7 =>
  intro s11_8 y9_l0 hn;rw [Z69_l7];by_cases hlt:s11_8<a0.FDefs.l.length
  ·obtain⟨h7,hh7⟩:=Qa hlt;rw [Q.drop_of hh7,Z69_q7];refine QT hlt ?_;refine Q.bindP hh7 fun x15 hx_x15=>?_;refine Q.condP ?_ ?_
   ·all_goals exact hret _
   all_goals exact ih7 _ _ ⟨by omega,by omega⟩
  rw [dL (by omega),Z69_q7];refine QF hlt ?_;exact hend n7 s11_8 y9_l0
def Z69_q (a0:TDoc) (a1:Bs):(TDef×Bool):=on (Z69_q7 a1 a0.FDefs.l ) fun o7=>match o7 with|Sum.inl _=>(on (()) fun _=>((TDef.mk (0:Int) ([]:Bs) (Sl.nil:Sl Bs) (Sl.nil:Sl TDir) (Sl.nil:Sl Z4) (Sl.nil:Sl Z7) (Sl.nil:Sl Z6)),false))|Sum.inr e7=>(e7)
theorem Z69_eq (a0:TDoc) (a1:Bs):Z69 a0 a1=some (Z69_q a0 a1):=by
 unfold Z69 Z69_q;refine Q.wrapPP fun Kb7 hKb7=>?_;refine Z69_l7_qe  Kb7 ?_ ?_ _ _ _ ⟨Nat.succ_pos _,by omega⟩
 ·intro n7 s11_8 y9_l0;refine Qe (hKb7 _) ?_;try dsimp only
  refine Q.wrapPP fun Kj2 hKj2=>?_;have hj2:∀(y3_l0:TDef),Z69_j2  y3_l0=Kj2 ():=by
   intro y3_l0;refine Qe (hKj2 _) ?_;unfold Z69_j2;all_goals rfl
  all_goals exact hj2 _
 intro e7;refine Qe (hKb7 _) ?_;try dsimp only
 all_goals rfl
def Z73_q (a0:Int):Bs:=bif (decide (a0=(1:Int))) then(([81,117,101,114,121]:Bs)) else(bif (decide (a0=(2:Int))) then(([77,117,116,97,116,105,111,110]:Bs)) else(bif (decide (a0=(3:Int))) then(([83,117,98,115,99,114,105,112,116,105,111,110]:Bs)) else(([]:Bs))))
theorem Z73_eq (a0:Int):Z73 a0=some (Z73_q a0):=by
 unfold Z73 Z73_q;refine Q.condP ?_ ?_
 ·all_goals rfl
 refine Q.condP ?_ ?_
 ·all_goals rfl
 refine Q.condP ?_ ?_
 ·all_goals rfl
 all_goals rfl
end Go.Proofs

namespace Go.Proofs
open Go Go.Ab
def Z29_q23 (a0:Z1) (x14:TSel) (k_rec_33:Z1->(Sl TSel)->(List Bs)->(List Bs)->Option ((List Bs)×(List Bs))):List Z5->(List Bs)->(List Bs)->Option (((List Bs)×(List Bs)))
 | [],y25_c2,y26_c3=>some (y25_c2,y26_c3)
 | h23::r23,y25_c2,y26_c3=>on (h23) fun x34=>Option.bind (bif (((x34.FName==x14.FName))&&(!(y26_c3.contains x14.FName))) then((k_rec_33 a0 x34.FSels y25_c2 (insS y26_c3 x14.FName)).bind fun x38=>some (x38.1,x38.2)) else(some (y25_c2,y26_c3))) fun z30=>Z29_q23 a0 x14 k_rec_33 (r23) z30.1 z30.2
theorem Z29_l23_qe {a0:Z1}{s14_4:Nat}{x14:TSel}{k_next_3:Nat->(List Bs)->(List Bs)->Option ((List Bs)×(List Bs))}{k_rec_33:Z1->(Sl TSel)->(List Bs)->(List Bs)->Option ((List Bs)×(List Bs))}  (Kb23:(((List Bs)×(List Bs)))->Option ((List Bs)×(List Bs))) (hend:∀(n23:Nat) (s45_24:Nat) (y25_c2:(List Bs)) (y26_c3:(List Bs)),Z29_j10 s14_4 k_next_3 y25_c2 y26_c3=Kb23 (y25_c2,y26_c3)):∀(n23:Nat) (s45_24:Nat) (y25_c2:(List Bs)) (y26_c3:(List Bs)),(0<n23/\a0.Fq.FFrags.l.length<s45_24+n23)->Z29_l23 a0 s14_4 x14 k_next_3 k_rec_33 n23 s45_24 y25_c2 y26_c3=Option.bind (Z29_q23 a0 x14 k_rec_33 (a0.Fq.FFrags.l.drop s45_24) y25_c2 y26_c3) Kb23:=by
 intro n23;induction n23 with
 | zero=>intro s45_24 y25_c2 y26_c3 hn; exact absurd hn.1 (by omega)
 | succ n23 ih23 =>
  intro s45_24 y25_c2 y26_c3 hn;rw [Z29_l23];by_cases hlt:s45_24<a0.Fq.FFrags.l.length
  ·obtain⟨h23,hh23⟩:=Qa hlt;rw [Q.drop_of hh23,Z29_q23];refine QT hlt ?_;refine Q.bindPO hh23 fun x34 hx_x34=>?_;refine Q.wrapOO fun Kj30 hKj30=>?_;have hj30:∀(y31_c2:(List Bs)) (y32_c3:(List Bs)),Z29_j30 s45_24 (Z29_l23 a0 s14_4 x14 k_next_3 k_rec_33 n23) y31_c2 y32_c3=Kj30 (y31_c2,y32_c3):=by
    intro y31_c2 y32_c3;refine Qe (hKj30 _) ?_;try dsimp only
    unfold Z29_j30;all_goals exact ih23 _ _ _ ⟨by omega,by omega⟩
   refine Q.condO ?_ ?_
   ·refine Q.bindO rfl fun x38=>?_;all_goals exact hj30 _ _
   all_goals exact hj30 _ _
  rw [dL (by omega),Z29_q23];refine QF hlt ?_;exact hend n23 s45_24 y25_c2 y26_c3
def Z29_q3 (a0:Z1) (k_rec_33:Z1->(Sl TSel)->(List Bs)->(List Bs)->Option ((List Bs)×(List Bs))):List TSel->(List Bs)->(List Bs)->Option (((List Bs)×(List Bs)))
 | [],y5_c2,y6_c3=>some (y5_c2,y6_c3)
 | h3::r3,y5_c2,y6_c3=>on (h3) fun x14=>Option.bind (bif (decide (x14.FKind=(3:Int))) then((k_rec_33 a0 x14.FSels y5_c2 y6_c3).bind fun x18=>some (x18.1,x18.2)) else(bif (decide (x14.FKind=(2:Int))) then(Option.bind (Z29_q23 a0 x14 k_rec_33 a0.Fq.FFrags.l y5_c2 y6_c3) fun z23=>some (z23.1,z23.2)) else(bif (!(x14.FAlias==([]:Bs))) then(some ((insS y5_c2 x14.FAlias),y6_c3)) else(some ((insS y5_c2 x14.FName),y6_c3))))) fun z10=>Z29_q3 a0 k_rec_33 (r3) z10.1 z10.2
theorem Z29_l3_qe {a0:Z1}{a1:(Sl TSel)}{k_rec_33:Z1->(Sl TSel)->(List Bs)->(List Bs)->Option ((List Bs)×(List Bs))}  (Kb3:(((List Bs)×(List Bs)))->Option ((List Bs)×(List Bs))) (hend:∀(n3:Nat) (s14_4:Nat) (y5_c2:(List Bs)) (y6_c3:(List Bs)),some (y5_c2,y6_c3)=Kb3 (y5_c2,y6_c3)):∀(n3:Nat) (s14_4:Nat) (y5_c2:(List Bs)) (y6_c3:(List Bs)),(0<n3/\a1.l.length<s14_4+n3)->Z29_l3 a0 a1 k_rec_33 n3 s14_4 y5_c2 y6_c3=Option.bind (Z29_q3 a0 k_rec_33 (a1.l.drop s14_4) y5_c2 y6_c3) Kb3:=by
 intro n3;induction n3 with
 | zero=>intro s14_4 y5_c2 y6_c3 hn; exact absurd hn.1 (by omega)
 | succ n3 ih3 =>
  intro s14_4 y5_c2 y6_c3 hn;rw [Z29_l3];by_cases hlt:s14_4<a1.l.length
  ·obtain⟨h3,hh3⟩:=Qa hlt;rw [Q.drop_of hh3,Z29_q3];refine QT hlt ?_;refine Q.bindPO hh3 fun x14 hx_x14=>?_;refine Q.wrapOO fun Kj10 hKj10=>?_;have hj10:∀(y11_c2:(List Bs)) (y12_c3:(List Bs)),Z29_j10 s14_4 (Z29_l3 a0 a1 k_rec_33 n3) y11_c2 y12_c3=Kj10 (y11_c2,y12_c3):=by
    intro y11_c2 y12_c3;refine Qe (hKj10 _) ?_;try dsimp only
    unfold Z29_j10;all_goals exact ih3 _ _ _ ⟨by omega,by omega⟩
   refine Q.condO ?_ ?_
   ·refine Q.bindO rfl fun x18=>?_;all_goals exact hj10 _ _
   refine Q.condO ?_ ?_
   ·refine Q.wrapOO fun Kb23 hKb23=>?_;refine Z29_l23_qe  Kb23 ?_ _ _ _ _ ⟨Nat.succ_pos _,by omega⟩;intro n23 s45_24 y25_c2 y26_c3;refine Qe (hKb23 _) ?_;try dsimp only
    all_goals exact hj10 _ _
   refine Q.condO ?_ ?_
   ·all_goals exact hj10 _ _
   all_goals exact hj10 _ _
  rw [dL (by omega),Z29_q3];refine QF hlt ?_;exact hend n3 s14_4 y5_c2 y6_c3
def Z29_qn:Nat->Z1->(Sl TSel)->(List Bs)->(List Bs)->Option ((List Bs)×(List Bs))
 | 0,_,_,_,_=>none
 | n+1,a0,a1,a2,a3=>Option.bind (Z29_q3 a0 (Z29_qn n) a1.l a2 a3) fun z3=>some (z3.1,z3.2)
theorem Z29_qall:∀n:Nat,Z29_n n=Z29_qn n:=by
 intro n;induction n with
 | zero=>exact(by funext a0 a1 a2 a3; first|rfl|(rw [Z29_n,Z29_qn]))
 | succ n ih =>
  funext a0 a1 a2 a3
  refine Qs ?_;rw [Z29_n,Z29_qn];try rw [ih]
  refine Q.wrapOO fun Kb3 hKb3=>?_;refine Z29_l3_qe  Kb3 ?_ _ _ _ _ ⟨Nat.succ_pos _,by omega⟩;intro n3 s14_4 y5_c2 y6_c3;refine Qe (hKb3 _) ?_;try dsimp only
  all_goals rfl
def Z29_q (a0:Z1) (a1:(Sl TSel)) (a2:(List Bs)) (a3:(List Bs)):Option ((List Bs)×(List Bs)):=Z29_qn F0 a0 a1 a2 a3
theorem Z29_eq (a0:Z1) (a1:(Sl TSel)) (a2:(List Bs)) (a3:(List Bs)):Z29 a0 a1 a2 a3=Z29_q a0 a1 a2 a3:=by
 unfold Z29 Z29_q; rw [(Z29_qall F0)]
def Z24_q (a0:Z1) (a1:Bool) (a2:Int) (a3:Bs):Option Z1:=bif a1 then((appC 24 a0.Fout (⟨false,[(Z3.mk a2 a3)]⟩:Sl Z3)).bind fun x3=>some (Z1.mk a0.Fd a0.Fq x3)) else(some a0)
theorem Z24_eq (a0:Z1) (a1:Bool) (a2:Int) (a3:Bs):Z24 a0 a1 a2 a3=Z24_q a0 a1 a2 a3:=by
 unfold Z24 Z24_q;refine Qs ?_;refine Q.condO ?_ ?_
 ·refine Q.bindO rfl fun x3=>?_;all_goals rfl
 all_goals rfl
def Z85_q (a0:(Sl Int)):Option (Sl Int):=bif a0.nl then(some (Sl.nil:Sl Int)) else((appC 8 (⟨false,[]⟩:Sl Int) a0).bind fun x7=>some x7)
theorem Z85_eq (a0:(Sl Int)):Z85 a0=Z85_q a0:=by
 unfold Z85 Z85_q;refine Qs ?_;refine Q.condO ?_ ?_
 ·all_goals rfl
 refine Q.bindO rfl fun x7=>?_;all_goals rfl
def Z104_q (a0:TRef):Bool:=on (bif (decide ((0:Int)<((a0.FWraps.l.length:Nat):Int))) then((a0.FWraps.l)[0]?.getD (0:Int)) else(0:Int)) fun x4=>((decide ((0:Int)<((a0.FWraps.l.length:Nat):Int)))&&(decide (x4=(1:Int))))
theorem Z104_eq (a0:TRef):Z104 a0=some (Z104_q a0):=by
 unfold Z104 Z104_q;refine Q.guardT (fun hc=>Q.getD_some (by simp at hc; omega)) fun x4 hx_x4=>?_;all_goals rfl
def Z106_q (a0:TRef):Option TRef:=on (Z104_q a0) fun x4=>bif x4 then((Z85_q a0.FWraps).bind fun x7=>some (TRef.mk a0.FName x7)) else((appC 8 (⟨false,[(1:Int)]⟩:Sl Int) a0.FWraps).bind fun x9=>some (TRef.mk a0.FName x9))
theorem Z106_eq (a0:TRef):Z106 a0=Z106_q a0:=by
 unfold Z106 Z106_q;refine Qs ?_;refine Q.bindPO (Z104_eq _) fun x4 hx_x4=>?_;refine Q.condO ?_ ?_
 ·refine Q.bindO (Z85_eq _) fun x7=>?_;all_goals rfl
 refine Q.bindO rfl fun x9=>?_;all_goals rfl
def Z105_q (a0:Bs):TRef:=(TRef.mk a0 (Sl.nil:Sl Int))
theorem Z105_eq (a0:Bs):Z105 a0=some (Z105_q a0):=by
 unfold Z105 Z105_q;all_goals rfl
def Z32_q (a0:Bs) (a1:Bs):Option Z6:=on (Z105_q a1) fun x3=>(Z106_q x3).bind fun x4=>some (Z6.mk a0 x4 false Z9.zero (Sl.nil:Sl TDir))
theorem Z32_eq (a0:Bs) (a1:Bs):Z32 a0 a1=Z32_q a0 a1:=by
 unfold Z32 Z32_q;refine Qs ?_;refine Q.bindPO (Z105_eq _) fun x3 hx_x3=>?_;refine Q.bindO (Z106_eq _) fun x4=>?_;all_goals rfl
def Z23_q (a0:Bs) (a1:Bool):Option (Sl Z6):=bif (((a0==([115,107,105,112]:Bs)))||((a0==([105,110,99,108,117,100,101]:Bs)))) then((Z32_q ([105,102]:Bs) ([66,111,111,108,101,97,110]:Bs)).bind fun x6=>some (⟨false,[x6]⟩:Sl Z6)) else(bif (((a0==([100,101,102,101,114]:Bs)))&&(!a1)) then((Z32_q ([108,97,98,101,108]:Bs) ([83,116,114,105,110,103]:Bs)).bind fun x10=>some (⟨false,[x10]⟩:Sl Z6)) else(bif (((a0==([115,116,114,101,97,109]:Bs)))&&a1) then((Z32_q ([108,97,98,101,108]:Bs) ([83,116,114,105,110,103]:Bs)).bind fun x14=>(Z32_q ([105,110,105,116,105,97,108,67,111,117,110,116]:Bs) ([73,110,116]:Bs)).bind fun x15=>some (⟨false,[x14,x15]⟩:Sl Z6)) else(some (Sl.nil:Sl Z6))))
theorem Z23_eq (a0:Bs) (a1:Bool):Z23 a0 a1=Z23_q a0 a1:=by
 unfold Z23 Z23_q;refine Qs ?_;refine Q.condO ?_ ?_
 ·refine Q.bindO (Z32_eq _ _) fun x6=>?_;all_goals rfl
 refine Q.condO ?_ ?_
 ·refine Q.bindO (Z32_eq _ _) fun x10=>?_;all_goals rfl
 refine Q.condO ?_ ?_
 ·refine Q.bindO (Z32_eq _ _) fun x14=>?_;refine Q.bindO (Z32_eq _ _) fun x15=>?_;all_goals rfl
 all_goals rfl
def Z107_q (a0:TRef):Option TRef:=on (Z104_q a0) fun x8=>Option.bind (bif x8 then((partC a0.FWraps (some (1:Int)) none).bind fun x10=>some x10) else(some a0.FWraps)) fun s3_4=>(Z85_q s3_4).bind fun x6=>some (TRef.mk a0.FName x6)
theorem Z107_eq (a0:TRef):Z107 a0=Z107_q a0:=by
 unfold Z107 Z107_q;refine Qs ?_;refine Q.bindPO (Z104_eq _) fun x8 hx_x8=>?_;refine Q.wrapOO fun Kj3 hKj3=>?_;have hj3:∀(s3_4:(Sl Int)),Z107_j3 a0 s3_4=Kj3 s3_4:=by
  intro s3_4;refine Qe (hKj3 _) ?_;unfold Z107_j3;refine Q.bindO (Z85_eq _) fun x6=>?_;all_goals rfl
 refine Q.condO ?_ ?_
 ·refine Q.bindO rfl fun x10=>?_;all_goals exact hj3 _
 all_goals exact hj3 _
def Z103_q (a0:TRef):Option Bool:=(Z107_q a0).bind fun x3=>on (bif (decide ((0:Int)<((x3.FWraps.l.length:Nat):Int))) then((x3.FWraps.l)[0]?.getD (0:Int)) else(0:Int)) fun x6=>some ((decide ((0:Int)<((x3.FWraps.l.length:Nat):Int)))&&(decide (x6=(2:Int))))
theorem Z103_eq (a0:TRef):Z103 a0=Z103_q a0:=by
 unfold Z103 Z103_q;refine Qs ?_;refine Q.bindO (Z107_eq _) fun x3=>?_;refine Q.guardTO (fun hc=>Q.getD_some (by simp at hc; omega)) fun x6 hx_x6=>?_;all_goals rfl
def Z93_q6 (a1:(TDir->Bool)):List TDir->Nat->Unit ⊕ Int
 | [],s8_7=>Sum.inl ()
 | h6::r6,s8_7=>on (h6) fun x14=>on (a1 x14) fun x15=>bif x15 then(Sum.inr ((s8_7:Nat):Int)) else(Z93_q6 a1 (r6) (s8_7+1) )
theorem Z93_l6_qe {a0:(Sl TDir)}{a1:(TDir->Bool)}  (Kb6:(Unit ⊕ Int)->Option Int) (hend:∀(n6:Nat) (s8_7:Nat),Z93_j2   =Kb6 (Sum.inl ())) (hret:∀e:Int,some e=Kb6 (Sum.inr e)):∀(n6:Nat) (s8_7:Nat),(0<n6/\a0.l.length<s8_7+n6)->Z93_l6 a0 (fun y0=>some (a1 y0)) n6 s8_7=Kb6 (Z93_q6 a1 (a0.l.drop s8_7) s8_7 ):=by
 intro n6;induction n6 with
 | zero=>intro s8_7 hn; exact absurd hn.1 (by omega)
 | succ n6 ih6 =>
  intro s8_7 hn;rw [Z93_l6];by_cases hlt:s8_7<a0.l.length
  ·obtain⟨h6,hh6⟩:=Qa hlt;rw [Q.drop_of hh6,Z93_q6];refine QT hlt ?_;refine Q.bindP hh6 fun x14 hx_x14=>?_;refine Q.bindP rfl fun x15 hx_x15=>?_;refine Q.condP ?_ ?_
   ·all_goals exact hret _
   all_goals exact ih6 _ ⟨by omega,by omega⟩
  rw [dL (by omega),Z93_q6];refine QF hlt ?_;exact hend n6 s8_7
def Z93_q (a0:(Sl TDir)) (a1:(TDir->Bool)):Int:=on (Z93_q6 a1 a0.l 0 ) fun o6=>match o6 with|Sum.inl _=>(on (()) fun _=>(-1:Int))|Sum.inr e6=>(e6)
theorem Z93_eq (a0:(Sl TDir)) (a1:(TDir->Bool)):Z93 a0 (fun y0=>some (a1 y0))=some (Z93_q a0 a1):=by
 unfold Z93 Z93_q;refine Q.wrapPP fun Kb6 hKb6=>?_;refine Z93_l6_qe  Kb6 ?_ ?_ _ _ ⟨Nat.succ_pos _,by omega⟩
 ·intro n6 s8_7;refine Qe (hKb6 _) ?_;try dsimp only
  refine Q.wrapPP fun Kj2 hKj2=>?_;have hj2:Z93_j2  =Kj2 ():=by
   refine Qe (hKj2 _) ?_;unfold Z93_j2;all_goals rfl
  all_goals exact hj2
 intro e6;refine Qe (hKb6 _) ?_;try dsimp only
 all_goals rfl
def Z88_q (a0:(Sl TDir)) (a1:(TDir->Bool)):Bool:=on (Z93_q a0 a1) fun x3=>(decide ((0:Int)<=x3))
theorem Z88_eq (a0:(Sl TDir)) (a1:(TDir->Bool)):Z88 a0 (fun y0=>some (a1 y0))=some (Z88_q a0 a1):=by
 unfold Z88 Z88_q;refine Q.bindP (Z93_eq _ _) fun x3 hx_x3=>?_;all_goals rfl
def Z26_q (a0:TDir) (a1:TDir):Bool:=((a0.FName==a1.FName))
theorem Z26_eq (a0:TDir) (a1:TDir):Z26 a0 a1=some (Z26_q a0 a1):=by
 unfold Z26 Z26_q;all_goals rfl
def Z31_q7 (a1:Bs):List TArg->Unit ⊕ ((Z9×Bool))
 | []=>Sum.inl ()
 | h7::r7=>on (h7) fun x15=>bif ((x15.FName==a1)) then(Sum.inr (x15.FValue,true)) else(Z31_q7 a1 (r7) )
theorem Z31_l7_qe {a0:(Sl TArg)}{a1:Bs}  (Kb7:(Unit ⊕ ((Z9×Bool)))->Option (Z9×Bool)) (hend:∀(n7:Nat) (s10_8:Nat) (y9_l0:Z9),Z31_j2   y9_l0=Kb7 (Sum.inl ())) (hret:∀e:(Z9×Bool),some e=Kb7 (Sum.inr e)):∀(n7:Nat) (s10_8:Nat) (y9_l0:Z9),(0<n7/\a0.l.length<s10_8+n7)->Z31_l7 a0 a1 n7 s10_8 y9_l0=Kb7 (Z31_q7 a1 (a0.l.drop s10_8) ):=by
 intro n7;induction n7 with
 | zero=>intro s10_8 y9_l0 hn; exact absurd hn.1 (by omega)
 | succ n7 ih7 =>
  intro s10_8 y9_l0 hn;rw [Z31_l7];by_cases hlt:s10_8<a0.l.length
  ·obtain⟨h7,hh7⟩:=Qa hlt;rw [Q.drop_of hh7,Z31_q7];refine QT hlt ?_;refine Q.bindP hh7 fun x15 hx_x15=>?_;refine Q.condP ?_ ?_
   ·all_goals exact hret _
   all_goals exact ih7 _ _ ⟨by omega,by omega⟩
  rw [dL (by omega),Z31_q7];refine QF hlt ?_;exact hend n7 s10_8 y9_l0
def Z31_q (a0:(Sl TArg)) (a1:Bs):(Z9×Bool):=on (Z31_q7 a1 a0.l ) fun o7=>match o7 with|Sum.inl _=>(on (()) fun _=>((Z9.mk (0:Int) (0:Int) ([]:Bs) true ([]) (Sl.nil:Sl Bs)),false))|Sum.inr e7=>(e7)
theorem Z31_eq (a0:(Sl TArg)) (a1:Bs):Z31 a0 a1=some (Z31_q a0 a1):=by
 unfold Z31 Z31_q;refine Q.wrapPP fun Kb7 hKb7=>?_;refine Z31_l7_qe  Kb7 ?_ ?_ _ _ _ ⟨Nat.succ_pos _,by omega⟩
 ·intro n7 s10_8 y9_l0;refine Qe (hKb7 _) ?_;try dsimp only
  refine Q.wrapPP fun Kj2 hKj2=>?_;have hj2:∀(y3_l0:Z9),Z31_j2  y3_l0=Kj2 ():=by
   intro y3_l0;refine Qe (hKj2 _) ?_;unfold Z31_j2;all_goals rfl
  all_goals exact hj2 _
 intro e7;refine Qe (hKb7 _) ?_;try dsimp only
 all_goals rfl
def Z70_q7 (a1:Bs):List Z6->Unit ⊕ ((Z6×Bool))
 | []=>Sum.inl ()
 | h7::r7=>on (h7) fun x15=>bif ((x15.FName==a1)) then(Sum.inr (x15,true)) else(Z70_q7 a1 (r7) )
theorem Z70_l7_qe {a0:(Sl Z6)}{a1:Bs}  (Kb7:(Unit ⊕ ((Z6×Bool)))->Option (Z6×Bool)) (hend:∀(n7:Nat) (s10_8:Nat) (y9_l0:Z6),Z70_j2   y9_l0=Kb7 (Sum.inl ())) (hret:∀e:(Z6×Bool),some e=Kb7 (Sum.inr e)):∀(n7:Nat) (s10_8:Nat) (y9_l0:Z6),(0<n7/\a0.l.length<s10_8+n7)->Z70_l7 a0 a1 n7 s10_8 y9_l0=Kb7 (Z70_q7 a1 (a0.l.drop s10_8) ):=by
 intro n7;induction n7 with
 | zero=>intro s10_8 y9_l0 hn; exact absurd hn.1 (by omega)
 | succ n7 ih7 =>
  intro s10_8 y9_l0 hn;rw [Z70_l7];by_cases hlt:s10_8<a0.l.length
  ·obtain⟨h7,hh7⟩:=Qa hlt;rw [Q.drop_of hh7,Z70_q7];refine QT hlt ?_;refine Q.bindP hh7 fun x15 hx_x15=>?_;refine Q.condP ?_ ?_
   ·all_goals exact hret _
   all_goals exact ih7 _ _ ⟨by omega,by omega⟩
  rw [dL (by omega),Z70_q7];refine QF hlt ?_;exact hend n7 s10_8 y9_l0
def Z70_q (a0:(Sl Z6)) (a1:Bs):(Z6×Bool):=on (Z70_q7 a1 a0.l ) fun o7=>match o7 with|Sum.inl _=>(on (()) fun _=>((Z6.mk ([]:Bs) TRef.zero false Z9.zero (Sl.nil:Sl TDir)),false))|Sum.inr e7=>(e7)
theorem Z70_eq (a0:(Sl Z6)) (a1:Bs):Z70 a0 a1=some (Z70_q a0 a1):=by
 unfold Z70 Z70_q;refine Q.wrapPP fun Kb7 hKb7=>?_;refine Z70_l7_qe  Kb7 ?_ ?_ _ _ _ ⟨Nat.succ_pos _,by omega⟩
 ·intro n7 s10_8 y9_l0;refine Qe (hKb7 _) ?_;try dsimp only
  refine Q.wrapPP fun Kj2 hKj2=>?_;have hj2:∀(y3_l0:Z6),Z70_j2  y3_l0=Kj2 ():=by
   intro y3_l0;refine Qe (hKj2 _) ?_;unfold Z70_j2;all_goals rfl
  all_goals exact hj2 _
 intro e7;refine Qe (hKb7 _) ?_;try dsimp only
 all_goals rfl
def Z84_q (a0:TDoc) (a1:Bs):Int:=on (Z69_q a0 a1) fun x3=>x3.1.FKind
theorem Z84_eq (a0:TDoc) (a1:Bs):Z84 a0 a1=some (Z84_q a0 a1):=by
 unfold Z84 Z84_q;refine Q.bindP (Z69_eq _ _) fun x3 hx_x3=>?_;all_goals rfl
def Z74_q (a0:Bs):Bool:=(((((a0==([73,110,116]:Bs)))||((a0==([83,116,114,105,110,103]:Bs))))||((a0==([66,111,111,108,101,97,110]:Bs))))||((a0==([73,68]:Bs))))
theorem Z74_eq (a0:Bs):Z74 a0=some (Z74_q a0):=by
 unfold Z74 Z74_q;all_goals rfl
def Z72_q (a0:TDoc) (a1:Bs):Bool:=on (Z74_q a1) fun x3=>on (bif !x3 then Z84_q a0 a1 else(0:Int)) fun x4=>(x3||(decide (x4=(4:Int))))
theorem Z72_eq (a0:TDoc) (a1:Bs):Z72 a0 a1=some (Z72_q a0 a1):=by
 unfold Z72 Z72_q;refine Q.bindP (Z74_eq _) fun x3 hx_x3=>?_;refine Q.guardP (Z84_eq _ _) fun x4 hx_x4=>?_;all_goals rfl
def Z71_q (a0:TDoc) (a1:Bs):Bool:=on (Z72_q a0 a1) fun x3=>on (bif !x3 then Z84_q a0 a1 else(0:Int)) fun x4=>(x3||(decide (x4=(5:Int))))
theorem Z71_eq (a0:TDoc) (a1:Bs):Z71 a0 a1=some (Z71_q a0 a1):=by
 unfold Z71 Z71_q;refine Q.bindP (Z72_eq _ _) fun x3 hx_x3=>?_;refine Q.guardP (Z84_eq _ _) fun x4 hx_x4=>?_;all_goals rfl
def Z102_q (a0:TRef):Option (TRef×Bool):=(Z103_q a0).bind fun x4=>bif (!x4) then(some ((TRef.mk ([]:Bs) (Sl.nil:Sl Int)),false)) else((Z107_q a0).bind fun x8=>(partC x8.FWraps (some (1:Int)) none).bind fun x10=>some ((TRef.mk x8.FName x10),true))
theorem Z102_eq (a0:TRef):Z102 a0=Z102_q a0:=by
 unfold Z102 Z102_q;refine Qs ?_;refine Q.bindO (Z103_eq _) fun x4=>?_;refine Q.condO ?_ ?_
 ·all_goals rfl
 refine Q.bindO (Z107_eq _) fun x8=>?_;refine Q.bindO rfl fun x10=>?_;all_goals rfl
def Z94_q6 (a1:(Z7->Bool)):List Z7->Nat->Unit ⊕ Int
 | [],s8_7=>Sum.inl ()
 | h6::r6,s8_7=>on (h6) fun x14=>on (a1 x14) fun x15=>bif x15 then(Sum.inr ((s8_7:Nat):Int)) else(Z94_q6 a1 (r6) (s8_7+1) )
theorem Z94_l6_qe {a0:(Sl Z7)}{a1:(Z7->Bool)}  (Kb6:(Unit ⊕ Int)->Option Int) (hend:∀(n6:Nat) (s8_7:Nat),Z94_j2   =Kb6 (Sum.inl ())) (hret:∀e:Int,some e=Kb6 (Sum.inr e)):∀(n6:Nat) (s8_7:Nat),(0<n6/\a0.l.length<s8_7+n6)->Z94_l6 a0 (fun y0=>some (a1 y0)) n6 s8_7=Kb6 (Z94_q6 a1 (a0.l.drop s8_7) s8_7 ):=by
 intro n6;induction n6 with
 | zero=>intro s8_7 hn; exact absurd hn.1 (by omega)
 | succ n6 ih6 =>
  intro s8_7 hn;rw [Z94_l6];by_cases hlt:s8_7<a0.l.length
  ·obtain⟨h6,hh6⟩:=Qa hlt;rw [Q.drop_of hh6,Z94_q6];refine QT hlt ?_;refine Q.bindP hh6 fun x14 hx_x14=>?_;refine Q.bindP rfl fun x15 hx_x15=>?_;refine Q.condP ?_ ?_
   ·all_goals exact hret _
   all_goals exact ih6 _ ⟨by omega,by omega⟩
  rw [dL (by omega),Z94_q6];refine QF hlt ?_;exact hend n6 s8_7
def Z94_q (a0:(Sl Z7)) (a1:(Z7->Bool)):Int:=on (Z94_q6 a1 a0.l 0 ) fun o6=>match o6 with|Sum.inl _=>(on (()) fun _=>(-1:Int))|Sum.inr e6=>(e6)
theorem Z94_eq (a0:(Sl Z7)) (a1:(Z7->Bool)):Z94 a0 (fun y0=>some (a1 y0))=some (Z94_q a0 a1):=by
 unfold Z94 Z94_q;refine Q.wrapPP fun Kb6 hKb6=>?_;refine Z94_l6_qe  Kb6 ?_ ?_ _ _ ⟨Nat.succ_pos _,by omega⟩
 ·intro n6 s8_7;refine Qe (hKb6 _) ?_;try dsimp only
  refine Q.wrapPP fun Kj2 hKj2=>?_;have hj2:Z94_j2  =Kj2 ():=by
   refine Qe (hKj2 _) ?_;unfold Z94_j2;all_goals rfl
  all_goals exact hj2
 intro e6;refine Qe (hKb6 _) ?_;try dsimp only
 all_goals rfl
def Z89_q (a0:(Sl Z7)) (a1:(Z7->Bool)):Bool:=on (Z94_q a0 a1) fun x3=>(decide ((0:Int)<=x3))
theorem Z89_eq (a0:(Sl Z7)) (a1:(Z7->Bool)):Z89 a0 (fun y0=>some (a1 y0))=some (Z89_q a0 a1):=by
 unfold Z89 Z89_q;refine Q.bindP (Z94_eq _ _) fun x3 hx_x3=>?_;all_goals rfl
def Z92_q6m (a1:(Z9->Option Bool)):List Z9->Nat->Option (Unit ⊕ Int)
 | [],s8_7=>some (Sum.inl ())
 | h6::r6,s8_7=>on (h6) fun x14=>(a1 x14).bind fun x15=>bif x15 then(some (Sum.inr ((s8_7:Nat):Int))) else(Z92_q6m a1 (r6) (s8_7+1) )
theorem Z92_l6_qem {a0:(Sl Z9)}{a1:(Z9->Option Bool)}  (Kb6:(Unit ⊕ Int)->Option Int) (hend:∀(n6:Nat) (s8_7:Nat),Z92_j2   =Kb6 (Sum.inl ())) (hret:∀e:Int,some e=Kb6 (Sum.inr e)):∀(n6:Nat) (s8_7:Nat),(0<n6/\a0.l.length<s8_7+n6)->Z92_l6 a0 a1 n6 s8_7=Option.bind (Z92_q6m a1 (a0.l.drop s8_7) s8_7 ) Kb6:=by
 intro n6;induction n6 with
 | zero=>intro s8_7 hn; exact absurd hn.1 (by omega)
 | succ n6 ih6 =>
  intro s8_7 hn;rw [Z92_l6];by_cases hlt:s8_7<a0.l.length
  ·obtain⟨h6,hh6⟩:=Qa hlt;rw [Q.drop_of hh6,Z92_q6m];refine QT hlt ?_;refine Q.bindPO hh6 fun x14 hx_x14=>?_;refine Q.bindO rfl fun x15=>?_;refine Q.condO ?_ ?_
   ·all_goals exact hret _
   all_goals exact ih6 _ ⟨by omega,by omega⟩
  rw [dL (by omega),Z92_q6m];refine QF hlt ?_;exact hend n6 s8_7
def Z92_qm (a0:(Sl Z9)) (a1:(Z9->Option Bool)):Option Int:=Option.bind (Z92_q6m a1 a0.l 0 ) fun o6=>match o6 with|Sum.inl _=>(on (()) fun _=>some (-1:Int))|Sum.inr e6=>(some e6)
theorem Z92_eqm (a0:(Sl Z9)) (a1:(Z9->Option Bool)):Z92 a0 a1=Z92_qm a0 a1:=by
 unfold Z92 Z92_qm;refine Qs ?_;refine Q.wrapOO fun Kb6 hKb6=>?_;refine Z92_l6_qem  Kb6 ?_ ?_ _ _ ⟨Nat.succ_pos _,by omega⟩
 ·intro n6 s8_7;refine Qe (hKb6 _) ?_;try dsimp only
  refine Q.wrapPO fun Kj2 hKj2=>?_;have hj2:Z92_j2  =Kj2 ():=by
   refine Qe (hKj2 _) ?_;unfold Z92_j2;all_goals rfl
  all_goals exact hj2
 intro e6;refine Qe (hKb6 _) ?_;try dsimp only
 all_goals rfl
def Z87_qm (a0:(Sl Z9)) (a1:(Z9->Option Bool)):Option Bool:=(Z92_qm a0 a1).bind fun x3=>some (decide ((0:Int)<=x3))
theorem Z87_eqm (a0:(Sl Z9)) (a1:(Z9->Option Bool)):Z87 a0 a1=Z87_qm a0 a1:=by
 unfold Z87 Z87_qm;refine Qs ?_;refine Q.bindO (by simp only [Z92_eqm]) fun x3=>?_;all_goals rfl
def Z30_q (a0:Z7) (a1:Z9):Bool:=((a0.FName==a1.FText))
theorem Z30_eq (a0:Z7) (a1:Z9):Z30 a0 a1=some (Z30_q a0 a1):=by
 unfold Z30 Z30_q;all_goals rfl
def Z95_q6 (a1:(Z6->Bool)):List Z6->Nat->Unit ⊕ Int
 | [],s8_7=>Sum.inl ()
 | h6::r6,s8_7=>on (h6) fun x14=>on (a1 x14) fun x15=>bif x15 then(Sum.inr ((s8_7:Nat):Int)) else(Z95_q6 a1 (r6) (s8_7+1) )
theorem Z95_l6_qe {a0:(Sl Z6)}{a1:(Z6->Bool)}  (Kb6:(Unit ⊕ Int)->Option Int) (hend:∀(n6:Nat) (s8_7:Nat),Z95_j2   =Kb6 (Sum.inl ())) (hret:∀e:Int,some e=Kb6 (Sum.inr e)):∀(n6:Nat) (s8_7:Nat),(0<n6/\a0.l.length<s8_7+n6)->Z95_l6 a0 (fun y0=>some (a1 y0)) n6 s8_7=Kb6 (Z95_q6 a1 (a0.l.drop s8_7) s8_7 ):=by
 intro n6;induction n6 with
 | zero=>intro s8_7 hn; exact absurd hn.1 (by omega)
 | succ n6 ih6 =>
  intro s8_7 hn;rw [Z95_l6];by_cases hlt:s8_7<a0.l.length
  ·obtain⟨h6,hh6⟩:=Qa hlt;rw [Q.drop_of hh6,Z95_q6];refine QT hlt ?_;refine Q.bindP hh6 fun x14 hx_x14=>?_;refine Q.bindP rfl fun x15 hx_x15=>?_;refine Q.condP ?_ ?_
   ·all_goals exact hret _
   all_goals exact ih6 _ ⟨by omega,by omega⟩
  rw [dL (by omega),Z95_q6];refine QF hlt ?_;exact hend n6 s8_7
def Z95_q (a0:(Sl Z6)) (a1:(Z6->Bool)):Int:=on (Z95_q6 a1 a0.l 0 ) fun o6=>match o6 with|Sum.inl _=>(on (()) fun _=>(-1:Int))|Sum.inr e6=>(e6)
theorem Z95_eq (a0:(Sl Z6)) (a1:(Z6->Bool)):Z95 a0 (fun y0=>some (a1 y0))=some (Z95_q a0 a1):=by
 unfold Z95 Z95_q;refine Q.wrapPP fun Kb6 hKb6=>?_;refine Z95_l6_qe  Kb6 ?_ ?_ _ _ ⟨Nat.succ_pos _,by omega⟩
 ·intro n6 s8_7;refine Qe (hKb6 _) ?_;try dsimp only
  refine Q.wrapPP fun Kj2 hKj2=>?_;have hj2:Z95_j2  =Kj2 ():=by
   refine Qe (hKj2 _) ?_;unfold Z95_j2;all_goals rfl
  all_goals exact hj2
 intro e6;refine Qe (hKb6 _) ?_;try dsimp only
 all_goals rfl
def Z90_q (a0:(Sl Z6)) (a1:(Z6->Bool)):Bool:=on (Z95_q a0 a1) fun x3=>(decide ((0:Int)<=x3))
theorem Z90_eq (a0:(Sl Z6)) (a1:(Z6->Bool)):Z90 a0 (fun y0=>some (a1 y0))=some (Z90_q a0 a1):=by
 unfold Z90 Z90_q;refine Q.bindP (Z95_eq _ _) fun x3 hx_x3=>?_;all_goals rfl
def Z96_q6 (a1:Bs):List Bs->Nat->Unit ⊕ Int
 | [],s8_7=>Sum.inl ()
 | h6::r6,s8_7=>on (h6) fun x14=>bif ((a1==x14)) then(Sum.inr ((s8_7:Nat):Int)) else(Z96_q6 a1 (r6) (s8_7+1) )
theorem Z96_l6_qe {a0:(Sl Bs)}{a1:Bs}  (Kb6:(Unit ⊕ Int)->Option Int) (hend:∀(n6:Nat) (s8_7:Nat),Z96_j2   =Kb6 (Sum.inl ())) (hret:∀e:Int,some e=Kb6 (Sum.inr e)):∀(n6:Nat) (s8_7:Nat),(0<n6/\a0.l.length<s8_7+n6)->Z96_l6 a0 a1 n6 s8_7=Kb6 (Z96_q6 a1 (a0.l.drop s8_7) s8_7 ):=by
 intro n6;induction n6 with
 | zero=>intro s8_7 hn; exact absurd hn.1 (by omega)
 | succ n6 ih6 =>
  intro s8_7 hn;rw [Z96_l6];by_cases hlt:s8_7<a0.l.length
  ·obtain⟨h6,hh6⟩:=Qa hlt;rw [Q.drop_of hh6,Z96_q6];refine QT hlt ?_;refine Q.bindP hh6 fun x14 hx_x14=>?_;refine Q.condP ?_ ?_
   ·all_goals exact hret _
   all_goals exact ih6 _ ⟨by omega,by omega⟩
  rw [dL (by omega),Z96_q6];refine QF hlt ?_;exact hend n6 s8_7
def Z96_q (a0:(Sl Bs)) (a1:Bs):Int:=on (Z96_q6 a1 a0.l 0 ) fun o6=>match o6 with|Sum.inl _=>(on (()) fun _=>(-1:Int))|Sum.inr e6=>(e6)
theorem Z96_eq (a0:(Sl Bs)) (a1:Bs):Z96 a0 a1=some (Z96_q a0 a1):=by
 unfold Z96 Z96_q;refine Q.wrapPP fun Kb6 hKb6=>?_;refine Z96_l6_qe  Kb6 ?_ ?_ _ _ ⟨Nat.succ_pos _,by omega⟩
 ·intro n6 s8_7;refine Qe (hKb6 _) ?_;try dsimp only
  refine Q.wrapPP fun Kj2 hKj2=>?_;have hj2:Z96_j2  =Kj2 ():=by
   refine Qe (hKj2 _) ?_;unfold Z96_j2;all_goals rfl
  all_goals exact hj2
 intro e6;refine Qe (hKb6 _) ?_;try dsimp only
 all_goals rfl
def Z91_q (a0:(Sl Bs)) (a1:Bs):Bool:=on (Z96_q a0 a1) fun x3=>(decide ((0:Int)<=x3))
theorem Z91_eq (a0:(Sl Bs)) (a1:Bs):Z91 a0 a1=some (Z91_q a0 a1):=by
 unfold Z91 Z91_q;refine Q.bindP (Z96_eq _ _) fun x3 hx_x3=>?_;all_goals rfl
def Z34_q (a0:Z6) (a1:Z9):Bool:=on (Z104_q a0.FType) fun x3=>on (bif (x3&&(!a0.FHas)) then Z91_q a1.FKeys a0.FName else false) fun x4=>((x3&&(!a0.FHas))&&(!x4))
theorem Z34_eq (a0:Z6) (a1:Z9):Z34 a0 a1=some (Z34_q a0 a1):=by
 unfold Z34 Z34_q;refine Q.bindP (Z104_eq _) fun x3 hx_x3=>?_;refine Q.guardP (Z91_eq _ _) fun x4 hx_x4=>?_;all_goals rfl
def Z33_q7 (a0:TDoc) (a1:TDef) (a2:Z9) (k_rec_98:TDoc->TRef->Z9->Option Bool):List Bs->Nat->Option (Unit ⊕ Bool)
 | [],s14_8=>some (Sum.inl ())
 | h7::r7,s14_8=>on (h7) fun x14=>on (Z70_q a1.FInputs x14) fun x16=>guardO (!((!x16.2)||(decide (((a2.FItems.l.length:Nat):Int)<=((s14_8:Nat):Int))))) (a2.FItems.l[s14_8]?) Z9.zero fun x18=>guardO (!((!x16.2)||(decide (((a2.FItems.l.length:Nat):Int)<=((s14_8:Nat):Int))))) (k_rec_98 a0 x16.1.FType x18) false fun x19=>bif (((!x16.2)||(decide (((a2.FItems.l.length:Nat):Int)<=((s14_8:Nat):Int))))||(!x19)) then(some (Sum.inr false)) else(Z33_q7 a0 a1 a2 k_rec_98 (r7) (s14_8+1) )
theorem Z33_l7_qe {a0:TDoc}{a1:TDef}{a2:Z9}{k_rec_98:TDoc->TRef->Z9->Option Bool}  (Kb7:(Unit ⊕ Bool)->Option Bool) (hend:∀(n7:Nat) (s14_8:Nat),Z33_j2 a1 a2  =Kb7 (Sum.inl ())) (hret:∀e:Bool,some e=Kb7 (Sum.inr e)):∀(n7:Nat) (s14_8:Nat),(0<n7/\a2.FKeys.l.length<s14_8+n7)->Z33_l7 a0 a1 a2 k_rec_98 n7 s14_8=Option.bind (Z33_q7 a0 a1 a2 k_rec_98 (a2.FKeys.l.drop s14_8) s14_8 ) Kb7:=by
 intro n7;induction n7 with
 | zero=>intro s14_8 hn; exact absurd hn.1 (by omega)
 | succ n7 ih7 =>
  intro s14_8 hn;rw [Z33_l7];by_cases hlt:s14_8<a2.FKeys.l.length
  ·obtain⟨h7,hh7⟩:=Qa hlt;rw [Q.drop_of hh7,Z33_q7];refine QT hlt ?_;refine Q.bindPO hh7 fun x14 hx_x14=>?_;refine Q.bindPO (Z70_eq _ _) fun x16 hx_x16=>?_;refine Q.guardOO rfl fun x18=>?_;refine Q.guardOO rfl fun x19=>?_;refine Q.condO ?_ ?_
   ·all_goals exact hret _
   all_goals exact ih7 _ ⟨by omega,by omega⟩
  rw [dL (by omega),Z33_q7];refine QF hlt ?_;exact hend n7 s14_8
mutual
def fields_fits_qn:Nat->TDoc->TRef->Z9->Option Bool
 | 0,_,_,_=>none
 | n+1,a0,a1,a2=>bif (decide (a2.FKind=(7:Int))) then(some true) else(on (Z71_q a0 a1.FName) fun x7=>bif (!x7) then(some false) else(bif (decide (a2.FKind=(0:Int))) then(on (Z104_q a1) fun x13=>some (!x13)) else((Z102_q a1).bind fun x16=>bif x16.2 then(bif (!decide (a2.FKind=(5:Int))) then(((fields_fits_qn n) a0 x16.1 a2).bind fun x23=>some x23) else((Z87_qm a2.FItems (fun y0=>(fields_fits_1_qn n) y0 a0 x16.1)).bind fun x25=>some (!x25))) else(bif ((a1.FName==([73,110,116]:Bs))) then(some (((decide (a2.FKind=(2:Int)))&&(decide ((-2147483648:Int)<=a2.FInt)))&&(decide (a2.FInt<(2147483648:Int))))) else(bif ((a1.FName==([83,116,114,105,110,103]:Bs))) then(some (decide (a2.FKind=(3:Int)))) else(bif ((a1.FName==([66,111,111,108,101,97,110]:Bs))) then(some (decide (a2.FKind=(1:Int)))) else(bif ((a1.FName==([73,68]:Bs))) then(some ((decide (a2.FKind=(3:Int)))||(decide (a2.FKind=(2:Int))))) else(on (Z69_q a0 a1.FName) fun x41=>bif (decide (x41.1.FKind=(4:Int))) then(on (bif (decide (a2.FKind=(4:Int))) then Z89_q x41.1.FMembers (fun y0=>Z30_q y0 a2) else false) fun x46=>some ((decide (a2.FKind=(4:Int)))&&x46)) else(guardO ((decide (a2.FKind=(6:Int)))) ((Z33_qn n) a0 x41.1 a2) false fun x48=>some ((decide (a2.FKind=(6:Int)))&&x48))))))))))
def fields_fits_1_qn:Nat->Z9->TDoc->TRef->Option Bool
 | 0,_,_,_=>none
 | n+1,a0,a1,a2=>((fields_fits_qn n) a1 a2 a0).bind fun x3=>some (!x3)
def Z33_qn:Nat->TDoc->TDef->Z9->Option Bool
 | 0,_,_,_=>none
 | n+1,a0,a1,a2=>Option.bind (Z33_q7 a0 a1 a2 (fields_fits_qn n) a2.FKeys.l 0 ) fun o7=>match o7 with|Sum.inl _=>(on (()) fun _=>on (Z90_q a1.FInputs (fun y0=>Z34_q y0 a2)) fun x4=>some (!x4))|Sum.inr e7=>(some e7)
end
theorem fields_fits_qall:∀n:Nat,fields_fits_n n=fields_fits_qn n/\fields_fits_1_n n=fields_fits_1_qn n/\Z33_n n=Z33_qn n:=by
 intro n;induction n with
 | zero=>exact⟨(by funext a0 a1 a2; first|rfl|(rw [fields_fits_n,fields_fits_qn])),(by funext a0 a1 a2; first|rfl|(rw [fields_fits_1_n,fields_fits_1_qn])),(by funext a0 a1 a2; first|rfl|(rw [Z33_n,Z33_qn]))⟩
 | succ n ih =>
  refine⟨?_, ?_, ?_⟩
  ·funext a0 a1 a2
   refine Qs ?_;rw [fields_fits_n,fields_fits_qn];try rw [ih.1]
   try rw [ih.2.1]
   try rw [ih.2.2]
   refine Q.condO ?_ ?_
   ·all_goals rfl
   refine Q.bindPO (Z71_eq _ _) fun x7 hx_x7=>?_;refine Q.condO ?_ ?_
   ·all_goals rfl
   refine Q.condO ?_ ?_
   ·refine Q.bindPO (Z104_eq _) fun x13 hx_x13=>?_;all_goals rfl
   refine Q.bindO (Z102_eq _) fun x16=>?_;refine Q.condO ?_ ?_
   ·refine Q.condO ?_ ?_
    ·refine Q.bindO rfl fun x23=>?_;all_goals rfl
    refine Q.bindO (by simp only [Z87_eqm]) fun x25=>?_;all_goals rfl
   refine Q.condO ?_ ?_
   ·all_goals rfl
   refine Q.condO ?_ ?_
   ·all_goals rfl
   refine Q.condO ?_ ?_
   ·all_goals rfl
   refine Q.condO ?_ ?_
   ·all_goals rfl
   refine Q.bindPO (Z69_eq _ _) fun x41 hx_x41=>?_;refine Q.condO ?_ ?_
   ·refine Q.guardPO (by simp only [Z30_eq,Z89_eq]) fun x46 hx_x46=>?_;all_goals rfl
   refine Q.guardOO rfl fun x48=>?_;all_goals rfl
  ·funext a0 a1 a2
   refine Qs ?_;rw [fields_fits_1_n,fields_fits_1_qn];try rw [ih.1]
   try rw [ih.2.1]
   try rw [ih.2.2]
   refine Q.bindO rfl fun x3=>?_;all_goals rfl
  funext a0 a1 a2
  refine Qs ?_;rw [Z33_n,Z33_qn];try rw [ih.1]
  try rw [ih.2.1]
  try rw [ih.2.2]
  refine Q.wrapOO fun Kb7 hKb7=>?_;refine Z33_l7_qe  Kb7 ?_ ?_ _ _ ⟨Nat.succ_pos _,by omega⟩
  ·intro n7 s14_8;refine Qe (hKb7 _) ?_;try dsimp only
   refine Q.wrapPO fun Kj2 hKj2=>?_;have hj2:Z33_j2 a1 a2 =Kj2 ():=by
    refine Qe (hKj2 _) ?_;unfold Z33_j2;refine Q.bindPO (by simp only [Z34_eq,Z90_eq]) fun x4 hx_x4=>?_;all_goals rfl
   all_goals exact hj2
  intro e7;refine Qe (hKb7 _) ?_;try dsimp only
  all_goals rfl
def fields_fits_q (a0:TDoc) (a1:TRef) (a2:Z9):Option Bool:=fields_fits_qn F0 a0 a1 a2
theorem fields_fits_eq (a0:TDoc) (a1:TRef) (a2:Z9):fields_fits a0 a1 a2=fields_fits_q a0 a1 a2:=by
 unfold fields_fits fields_fits_q; rw [(fields_fits_qall F0).1]
def Z28_q3 (a1:(Sl Z6)) (a2:(Sl TArg)) (a3:Bool) (a4:Bs):List TArg->Nat->Z1->Option (Z1)
 | [],s20_4,y5_c0=>some y5_c0
 | h3::r3,s20_4,y5_c0=>on (h3) fun x12=>on (Z70_q a1 x12.FName) fun x14=>on ((⟨a2.nl,a2.l.take s20_4⟩:Sl TArg)) fun x16=>on (Z31_q x16 x12.FName) fun x17=>Option.bind (bif ((!x14.2)||x17.2) then((Z24_q y5_c0 true (22:Int) a4).bind fun x22=>some x22) else((fields_fits_q y5_c0.Fd x14.1.FType x12.FValue).bind fun x23=>(Z24_q y5_c0 ((!x23)||(a3&&(((decide (x12.FValue.FKind=(7:Int)))||((decide (x12.FValue.FKind=(3:Int)))&&((x12.FValue.FText==([]:Bs)))))||((decide (x12.FValue.FKind=(2:Int)))&&(decide (x12.FValue.FInt<(0:Int))))))) (23:Int) a4).bind fun x24=>some x24)) fun y10_c0=>Z28_q3 a1 a2 a3 a4 (r3) (s20_4+1) y10_c0
theorem Z28_l3_qe {a1:(Sl Z6)}{a2:(Sl TArg)}{a3:Bool}{a4:Bs}  (Kb3:(Z1)->Option Z1) (hend:∀(n3:Nat) (s20_4:Nat) (y5_c0:Z1),some y5_c0=Kb3 y5_c0):∀(n3:Nat) (s20_4:Nat) (y5_c0:Z1),(0<n3/\a2.l.length<s20_4+n3)->Z28_l3 a1 a2 a3 a4 n3 s20_4 y5_c0=Option.bind (Z28_q3 a1 a2 a3 a4 (a2.l.drop s20_4) s20_4 y5_c0) Kb3:=by
 intro n3;induction n3 with
 | zero=>intro s20_4 y5_c0 hn; exact absurd hn.1 (by omega)
 | succ n3 ih3 =>
  intro s20_4 y5_c0 hn;rw [Z28_l3];by_cases hlt:s20_4<a2.l.length
  ·obtain⟨h3,hh3⟩:=Qa hlt;rw [Q.drop_of hh3,Z28_q3];refine QT hlt ?_;refine Q.bindPO hh3 fun x12 hx_x12=>?_;refine Q.bindPO (Z70_eq _ _) fun x14 hx_x14=>?_;refine Q.bindPO (Q.partC_take (by omega)) fun x16 hx_x16=>?_;refine Q.bindPO (Z31_eq _ _) fun x17 hx_x17=>?_;refine Q.wrapOO fun Kj9 hKj9=>?_;have hj9:∀(y10_c0:Z1),Z28_j9 s20_4 (Z28_l3 a1 a2 a3 a4 n3) y10_c0=Kj9 y10_c0:=by
    intro y10_c0;refine Qe (hKj9 _) ?_;unfold Z28_j9;all_goals exact ih3 _ _ ⟨by omega,by omega⟩
   refine Q.condO ?_ ?_
   ·refine Q.bindO (Z24_eq _ _ _ _) fun x22=>?_;all_goals exact hj9 _
   refine Q.bindO (fields_fits_eq _ _ _) fun x23=>?_;refine Q.bindO (Z24_eq _ _ _ _) fun x24=>?_;all_goals exact hj9 _
  rw [dL (by omega),Z28_q3];refine QF hlt ?_;exact hend n3 s20_4 y5_c0
def Z28_q (a0:Z1) (a1:(Sl Z6)) (a2:(Sl TArg)) (a3:Bool) (a4:Bs):Option Z1:=Option.bind (Z28_q3 a1 a2 a3 a4 a2.l 0 a0) fun y5_c0=>some y5_c0
theorem Z28_eq (a0:Z1) (a1:(Sl Z6)) (a2:(Sl TArg)) (a3:Bool) (a4:Bs):Z28 a0 a1 a2 a3 a4=Z28_q a0 a1 a2 a3 a4:=by
 unfold Z28 Z28_q;refine Qs ?_;refine Q.wrapOO fun Kb3 hKb3=>?_;refine Z28_l3_qe  Kb3 ?_ _ _ _ ⟨Nat.succ_pos _,by omega⟩;intro n3 s20_4 y5_c0;refine Qe (hKb3 _) ?_;all_goals rfl
end Go.Proofs

namespace Go.Proofs
open Go Go.Ab
def Z25_q30 (a4:Bs) (x13:TDir):List Z6->Z1->Option (Z1)
 | [],y32_c0=>some y32_c0
 | h30::r30,y32_c0=>on (h30) fun x38=>on (Z31_q x13.FArgs x38.FName) fun x40=>(Z24_q y32_c0 (!x40.2) (22:Int) a4).bind fun x41=>Z25_q30 a4 x13 (r30) x41
theorem Z25_l30_qe {a4:Bs}{s21_5:Nat}{x13:TDir}{s13_18:(Sl Z6)}{k_next_4:Nat->Z1->Option Z1}  (Kb30:(Z1)->Option Z1) (hend:∀(n30:Nat) (s78_31:Nat) (y32_c0:Z1),Z25_j10 s21_5 k_next_4 y32_c0=Kb30 y32_c0):∀(n30:Nat) (s78_31:Nat) (y32_c0:Z1),(0<n30/\s13_18.l.length<s78_31+n30)->Z25_l30 a4 s21_5 x13 s13_18 k_next_4 n30 s78_31 y32_c0=Option.bind (Z25_q30 a4 x13 (s13_18.l.drop s78_31) y32_c0) Kb30:=by
 intro n30;induction n30 with
 | zero=>intro s78_31 y32_c0 hn; exact absurd hn.1 (by omega)
 | succ n30 ih30 =>
  intro s78_31 y32_c0 hn;rw [Z25_l30];by_cases hlt:s78_31<s13_18.l.length
  ·obtain⟨h30,hh30⟩:=Qa hlt;rw [Q.drop_of hh30,Z25_q30];refine QT hlt ?_;refine Q.bindPO hh30 fun x38 hx_x38=>?_;refine Q.bindPO (Z31_eq _ _) fun x40 hx_x40=>?_;refine Q.bindO (Z24_eq _ _ _ _) fun x41=>?_;all_goals exact ih30 _ _ ⟨by omega,by omega⟩
  rw [dL (by omega),Z25_q30];refine QF hlt ?_;exact hend n30 s78_31 y32_c0
def Z25_q4 (a1:TSel) (a2:TRef) (a3:Bool) (a4:Bs):List TDir->Nat->Z1->Option (Z1)
 | [],s21_5,y6_c0=>some y6_c0
 | h4::r4,s21_5,y6_c0=>on (h4) fun x13=>(Z23_q x13.FName ((!decide (a1.FKind=(2:Int)))&&(!decide (a1.FKind=(3:Int))))).bind fun x16=>guardO ((((x13.FName==([115,116,114,101,97,109]:Bs)))&&a3)) (Z103_q a2) false fun x43=>on (bif ((((x13.FName==([115,116,114,101,97,109]:Bs)))&&a3)&&(!x43)) then((Sl.nil:Sl Z6)) else(x16)) fun s13_18=>on (bif !s13_18.nl then(⟨a1.FDirs.nl,a1.FDirs.l.take s21_5⟩:Sl TDir) else(Sl.nil:Sl TDir)) fun x21=>on (bif !s13_18.nl then Z88_q x21 (fun y0=>Z26_q y0 x13) else false) fun x22=>Option.bind (bif (s13_18.nl||x22) then((Z24_q y6_c0 true (29:Int) a4).bind fun x25=>some x25) else((Z28_q y6_c0 s13_18 x13.FArgs (((x13.FName==([100,101,102,101,114]:Bs)))||((x13.FName==([115,116,114,101,97,109]:Bs)))) a4).bind fun x27=>Option.bind (Z25_q30 a4 x13 s13_18.l x27) fun y32_c0=>some y32_c0)) fun y11_c0=>Z25_q4 a1 a2 a3 a4 (r4) (s21_5+1) y11_c0
theorem Z25_l4_qe {a1:TSel}{a2:TRef}{a3:Bool}{a4:Bs}  (Kb4:(Z1)->Option Z1) (hend:∀(n4:Nat) (s21_5:Nat) (y6_c0:Z1),some y6_c0=Kb4 y6_c0):∀(n4:Nat) (s21_5:Nat) (y6_c0:Z1),(0<n4/\a1.FDirs.l.length<s21_5+n4)->Z25_l4 a1 a2 a3 a4 n4 s21_5 y6_c0=Option.bind (Z25_q4 a1 a2 a3 a4 (a1.FDirs.l.drop s21_5) s21_5 y6_c0) Kb4:=by
 intro n4;induction n4 with
 | zero=>intro s21_5 y6_c0 hn; exact absurd hn.1 (by omega)
 | succ n4 ih4 =>
  intro s21_5 y6_c0 hn;rw [Z25_l4];by_cases hlt:s21_5<a1.FDirs.l.length
  ·obtain⟨h4,hh4⟩:=Qa hlt;rw [Q.drop_of hh4,Z25_q4];refine QT hlt ?_;refine Q.bindPO hh4 fun x13 hx_x13=>?_;refine Q.bindO (Z23_eq _ _) fun x16=>?_;refine Q.guardOO (Z103_eq _) fun x43=>?_;refine Q.wrapPO fun Kj17 hKj17=>?_;have hj17:∀(s13_18:(Sl Z6)),Z25_j17 a1 a4 s21_5 y6_c0 x13 (Z25_l4 a1 a2 a3 a4 n4) s13_18=Kj17 s13_18:=by
    intro s13_18;refine Qe (hKj17 _) ?_;unfold Z25_j17;refine Q.guardPO (Q.partC_take (by omega)) fun x21 hx_x21=>?_;refine Q.guardPO (by simp only [Z26_eq,Z88_eq]) fun x22 hx_x22=>?_;refine Q.wrapOO fun Kj10 hKj10=>?_;have hj10:∀(y11_c0:Z1),Z25_j10 s21_5 (Z25_l4 a1 a2 a3 a4 n4) y11_c0=Kj10 y11_c0:=by
     intro y11_c0;refine Qe (hKj10 _) ?_;unfold Z25_j10;all_goals exact ih4 _ _ ⟨by omega,by omega⟩
    refine Q.condO ?_ ?_
    ·refine Q.bindO (Z24_eq _ _ _ _) fun x25=>?_;all_goals exact hj10 _
    refine Q.bindO (Z28_eq _ _ _ _ _) fun x27=>?_;refine Q.wrapOO fun Kb30 hKb30=>?_;refine Z25_l30_qe  Kb30 ?_ _ _ _ ⟨Nat.succ_pos _,by omega⟩;intro n30 s78_31 y32_c0;refine Qe (hKb30 _) ?_;all_goals exact hj10 _
   refine Q.condP ?_ ?_
   ·all_goals exact hj17 _
   all_goals exact hj17 _
  rw [dL (by omega),Z25_q4];refine QF hlt ?_;exact hend n4 s21_5 y6_c0
def Z25_q (a0:Z1) (a1:TSel) (a2:TRef) (a3:Bool) (a4:Bs):Option Z1:=Option.bind (Z25_q4 a1 a2 a3 a4 a1.FDirs.l 0 a0) fun y6_c0=>some y6_c0
theorem Z25_eq (a0:Z1) (a1:TSel) (a2:TRef) (a3:Bool) (a4:Bs):Z25 a0 a1 a2 a3 a4=Z25_q a0 a1 a2 a3 a4:=by
 unfold Z25 Z25_q;refine Qs ?_;refine Q.wrapOO fun Kb4 hKb4=>?_;refine Z25_l4_qe  Kb4 ?_ _ _ _ ⟨Nat.succ_pos _,by omega⟩;intro n4 s21_5 y6_c0;refine Qe (hKb4 _) ?_;all_goals rfl
def Z67_q (a0:TDoc) (a1:Bs):Bool:=on (Z84_q a0 a1) fun x3=>on (Z74_q a1) fun x5=>((!x5)&&(((decide (x3=(1:Int)))||(decide (x3=(2:Int))))||(decide (x3=(3:Int)))))
theorem Z67_eq (a0:TDoc) (a1:Bs):Z67 a0 a1=some (Z67_q a0 a1):=by
 unfold Z67 Z67_q;refine Q.bindP (Z84_eq _ _) fun x3 hx_x3=>?_;refine Q.bindP (Z74_eq _) fun x5 hx_x5=>?_;all_goals rfl
def Z68_q7 (a1:Bs):List Z4->Unit ⊕ ((Z4×Bool))
 | []=>Sum.inl ()
 | h7::r7=>on (h7) fun x15=>bif ((x15.FName==a1)) then(Sum.inr (x15,true)) else(Z68_q7 a1 (r7) )
theorem Z68_l7_qe {a0:TDef}{a1:Bs}  (Kb7:(Unit ⊕ ((Z4×Bool)))->Option (Z4×Bool)) (hend:∀(n7:Nat) (s11_8:Nat) (y9_l0:Z4),Z68_j2   y9_l0=Kb7 (Sum.inl ())) (hret:∀e:(Z4×Bool),some e=Kb7 (Sum.inr e)):∀(n7:Nat) (s11_8:Nat) (y9_l0:Z4),(0<n7/\a0.FFields.l.length<s11_8+n7)->Z68_l7 a0 a1 n7 s11_8 y9_l0=Kb7 (Z68_q7 a1 (a0.FFields.l.drop s11_8) ):=by
 intro n7;induction n7 with
 | zero=>intro s11_8 y9_l0 hn; exact absurd hn.1 (by omega)
 | succ n7 ih7 =>
  intro s11_8 y9_l0 hn;rw [Z68_l7];by_cases hlt:s11_8<a0.FFields.l.length
  ·obtain⟨h7,hh7⟩:=Qa hlt;rw [Q.drop_of hh7,Z68_q7];refine QT hlt ?_;refine Q.bindP hh7 fun x15 hx_x15=>?_;refine Q.condP ?_ ?_
   ·all_goals exact hret _
   all_goals exact ih7 _ _ ⟨by omega,by omega⟩
  rw [dL (by omega),Z68_q7];refine QF hlt ?_;exact hend n7 s11_8 y9_l0
def Z68_q (a0:TDef) (a1:Bs):(Z4×Bool):=on (Z68_q7 a1 a0.FFields.l ) fun o7=>match o7 with|Sum.inl _=>(on (()) fun _=>((Z4.mk ([]:Bs) (Sl.nil:Sl Z6) TRef.zero (Sl.nil:Sl TDir)),false))|Sum.inr e7=>(e7)
theorem Z68_eq (a0:TDef) (a1:Bs):Z68 a0 a1=some (Z68_q a0 a1):=by
 unfold Z68 Z68_q;refine Q.wrapPP fun Kb7 hKb7=>?_;refine Z68_l7_qe  Kb7 ?_ ?_ _ _ _ ⟨Nat.succ_pos _,by omega⟩
 ·intro n7 s11_8 y9_l0;refine Qe (hKb7 _) ?_;try dsimp only
  refine Q.wrapPP fun Kj2 hKj2=>?_;have hj2:∀(y3_l0:Z4),Z68_j2  y3_l0=Kj2 ():=by
   intro y3_l0;refine Qe (hKj2 _) ?_;unfold Z68_j2;all_goals rfl
  all_goals exact hj2 _
 intro e7;refine Qe (hKb7 _) ?_;try dsimp only
 all_goals rfl
def Z22_q (a0:TDoc) (a1:Bs) (a2:Bs):Option (TRef×Bool):=on (Z67_q a0 a1) fun x4=>bif (!x4) then(some ((TRef.mk ([]:Bs) (Sl.nil:Sl Int)),false)) else(bif ((a2==([95,95,116,121,112,101,110,97,109,101]:Bs))) then(on (Z105_q ([83,116,114,105,110,103]:Bs)) fun x11=>(Z106_q x11).bind fun x12=>some (x12,true)) else(on (Z69_q a0 a1) fun x14=>on (Z68_q x14.1 a2) fun x16=>bif (!x16.2) then(some ((TRef.mk ([]:Bs) (Sl.nil:Sl Int)),false)) else((Z85_q x16.1.FType.FWraps).bind fun x22=>some ((TRef.mk x16.1.FType.FName x22),true))))
theorem Z22_eq (a0:TDoc) (a1:Bs) (a2:Bs):Z22 a0 a1 a2=Z22_q a0 a1 a2:=by
 unfold Z22 Z22_q;refine Qs ?_;refine Q.bindPO (Z67_eq _ _) fun x4 hx_x4=>?_;refine Q.condO ?_ ?_
 ·all_goals rfl
 refine Q.condO ?_ ?_
 ·refine Q.bindPO (Z105_eq _) fun x11 hx_x11=>?_;refine Q.bindO (Z106_eq _) fun x12=>?_;all_goals rfl
 refine Q.bindPO (Z69_eq _ _) fun x14 hx_x14=>?_;refine Q.bindPO (Z68_eq _ _) fun x16 hx_x16=>?_;refine Q.condO ?_ ?_
 ·all_goals rfl
 refine Q.bindO (Z85_eq _) fun x22=>?_;all_goals rfl
def Z35_q (a0:Bs) (a1:Bs):Bool:=on (bif (decide (((a1.length:Nat):Int)<=((a0.length:Nat):Int))) then(List.take (a1.length) a0) else([]:Bs)) fun x5=>((decide (((a1.length:Nat):Int)<=((a0.length:Nat):Int)))&&((x5==a1)))
theorem Z35_eq (a0:Bs) (a1:Bs):Z35 a0 a1=some (Z35_q a0 a1):=by
 unfold Z35 Z35_q;refine Q.guardT (fun hc=>Q.cutC_take (by simp at hc; omega)) fun x5 hx_x5=>?_;all_goals rfl
def Z98_q (a0:Bs) (a1:Bs):Bool:=on (Z35_q a0 a1) fun x3=>x3
theorem Z98_eq (a0:Bs) (a1:Bs):Z98 a0 a1=some (Z98_q a0 a1):=by
 unfold Z98 Z98_q;refine Q.bindP (Z35_eq _ _) fun x3 hx_x3=>?_;all_goals rfl
def Z101_q (a0:Bs):Bool:=on (Z98_q a0 ([95,95]:Bs)) fun x3=>x3
theorem Z101_eq (a0:Bs):Z101 a0=some (Z101_q a0):=by
 unfold Z101 Z101_q;refine Q.bindP (Z98_eq _ _) fun x3 hx_x3=>?_;all_goals rfl
def fields_checker_sels_q3 (a2:Bs) (a3:Bs) (k_rec_35:Z1->(Sl TSel)->Bs->Bs->Option Z1) (k_rec_62:Z1->TSel->Bs->Bs->Option Z1):List TSel->Z1->Option (Z1)
 | [],y5_c0=>some y5_c0
 | h3::r3,y5_c0=>on (h3) fun x12=>Option.bind (bif (decide (x12.FKind=(2:Int))) then((Z25_q y5_c0 x12 (TRef.mk ([]:Bs) (Sl.nil:Sl Int)) false a3).bind fun x16=>some x16) else(bif (decide (x12.FKind=(3:Int))) then((Z25_q y5_c0 x12 (TRef.mk ([]:Bs) (Sl.nil:Sl Int)) false a3).bind fun x20=>on (bif (!(x12.FOn==([]:Bs))) then(x12.FOn) else(a2)) fun s10_23=>(k_rec_35 x20 x12.FSels s10_23 a3).bind fun x24=>some x24) else((k_rec_62 y5_c0 x12 a2 a3).bind fun x27=>some x27))) fun y10_c0=>fields_checker_sels_q3 a2 a3 k_rec_35 k_rec_62 (r3) y10_c0
theorem fields_checker_sels_l3_qe {a1:(Sl TSel)}{a2:Bs}{a3:Bs}{k_rec_35:Z1->(Sl TSel)->Bs->Bs->Option Z1}{k_rec_62:Z1->TSel->Bs->Bs->Option Z1}  (Kb3:(Z1)->Option Z1) (hend:∀(n3:Nat) (s13_4:Nat) (y5_c0:Z1),some y5_c0=Kb3 y5_c0):∀(n3:Nat) (s13_4:Nat) (y5_c0:Z1),(0<n3/\a1.l.length<s13_4+n3)->fields_checker_sels_l3 a1 a2 a3 k_rec_35 k_rec_62 n3 s13_4 y5_c0=Option.bind (fields_checker_sels_q3 a2 a3 k_rec_35 k_rec_62 (a1.l.drop s13_4) y5_c0) Kb3:=by
 intro n3;induction n3 with
 | zero=>intro s13_4 y5_c0 hn; exact absurd hn.1 (by omega)
 | succ n3 ih3 =>
  intro s13_4 y5_c0 hn;rw [fields_checker_sels_l3];by_cases hlt:s13_4<a1.l.length
  ·obtain⟨h3,hh3⟩:=Qa hlt;rw [Q.drop_of hh3,fields_checker_sels_q3];refine QT hlt ?_;refine Q.bindPO hh3 fun x12 hx_x12=>?_;refine Q.wrapOO fun Kj9 hKj9=>?_;have hj9:∀(y10_c0:Z1),fields_checker_sels_j9 s13_4 (fields_checker_sels_l3 a1 a2 a3 k_rec_35 k_rec_62 n3) y10_c0=Kj9 y10_c0:=by
    intro y10_c0;refine Qe (hKj9 _) ?_;unfold fields_checker_sels_j9;all_goals exact ih3 _ _ ⟨by omega,by omega⟩
   refine Q.condO ?_ ?_
   ·refine Q.bindO (Z25_eq _ _ _ _ _) fun x16=>?_;all_goals exact hj9 _
   refine Q.condO ?_ ?_
   ·refine Q.bindO (Z25_eq _ _ _ _ _) fun x20=>?_;refine Q.wrapPO fun Kj22 hKj22=>?_;have hj22:∀(s10_23:Bs),fields_checker_sels_j22 a3 s13_4 x12 x20 (fields_checker_sels_l3 a1 a2 a3 k_rec_35 k_rec_62 n3) k_rec_35 s10_23=Kj22 s10_23:=by
     intro s10_23;refine Qe (hKj22 _) ?_;unfold fields_checker_sels_j22;refine Q.bindO rfl fun x24=>?_;all_goals exact hj9 _
    refine Q.condP ?_ ?_
    ·all_goals exact hj22 _
    all_goals exact hj22 _
   refine Q.bindO rfl fun x27=>?_;all_goals exact hj9 _
  rw [dL (by omega),fields_checker_sels_q3];refine QF hlt ?_;exact hend n3 s13_4 y5_c0
def Z27_q37 (a1:TSel) (x7:Bs):List Z6->Z1->Option (Z1)
 | [],y39_c0=>some y39_c0
 | h37::r37,y39_c0=>on (h37) fun x45=>on (Z31_q a1.FArgs x45.FName) fun x47=>on (Z104_q x45.FType) fun x48=>(Z24_q y39_c0 ((x48&&(!x45.FHas))&&(!x47.2)) (22:Int) x7).bind fun x49=>Z27_q37 a1 x7 (r37) x49
theorem Z27_l37_qe {a1:TSel}{x7:Bs}{x12:(TRef×Bool)}{y32_l0:Z4}{k_rec_35:Z1->(Sl TSel)->Bs->Bs->Option Z1}  (Kb37:(Z1)->Option Z1) (hend:∀(n37:Nat) (s122_38:Nat) (y39_c0:Z1),Z27_j16 a1 x7 x12 k_rec_35 y39_c0=Kb37 y39_c0):∀(n37:Nat) (s122_38:Nat) (y39_c0:Z1),(0<n37/\y32_l0.FArgs.l.length<s122_38+n37)->Z27_l37 a1 x7 x12 y32_l0 k_rec_35 n37 s122_38 y39_c0=Option.bind (Z27_q37 a1 x7 (y32_l0.FArgs.l.drop s122_38) y39_c0) Kb37:=by
 intro n37;induction n37 with
 | zero=>intro s122_38 y39_c0 hn; exact absurd hn.1 (by omega)
 | succ n37 ih37 =>
  intro s122_38 y39_c0 hn;rw [Z27_l37];by_cases hlt:s122_38<y32_l0.FArgs.l.length
  ·obtain⟨h37,hh37⟩:=Qa hlt;rw [Q.drop_of hh37,Z27_q37];refine QT hlt ?_;refine Q.bindPO hh37 fun x45 hx_x45=>?_;refine Q.bindPO (Z31_eq _ _) fun x47 hx_x47=>?_;refine Q.bindPO (Z104_eq _) fun x48 hx_x48=>?_;refine Q.bindO (Z24_eq _ _ _ _) fun x49=>?_;all_goals exact ih37 _ _ ⟨by omega,by omega⟩
  rw [dL (by omega),Z27_q37];refine QF hlt ?_;exact hend n37 s122_38 y39_c0
mutual
def fields_checker_sels_qn:Nat->Z1->(Sl TSel)->Bs->Bs->Option Z1
 | 0,_,_,_,_=>none
 | n+1,a0,a1,a2,a3=>Option.bind (fields_checker_sels_q3 a2 a3 (fields_checker_sels_qn n) (Z27_qn n) a1.l a0) fun y5_c0=>some y5_c0
def Z27_qn:Nat->Z1->TSel->Bs->Bs->Option Z1
 | 0,_,_,_,_=>none
 | n+1,a0,a1,a2,a3=>on (bif ((a1.FAlias==([]:Bs))) then(a1.FName) else(a1.FAlias)) fun s8_4=>(catC ([47]:Bs) s8_4).bind fun x6=>(catC a3 x6).bind fun x7=>on (Z101_q a1.FAlias) fun x9=>(Z24_q a0 x9 (6:Int) x7).bind fun x10=>(Z22_q x10.Fd a2 a1.FName).bind fun x12=>on (bif (!x12.2) then Z67_q x10.Fd a2 else false) fun x14=>(Z24_q x10 ((!x12.2)&&x14) (20:Int) x7).bind fun x15=>Option.bind (bif x12.2 then(on (Z72_q x15.Fd x12.1.FName) fun x24=>on (bif !(x24&&(decide ((0:Int)<((a1.FSels.l.length:Nat):Int)))) then Z67_q x15.Fd x12.1.FName else false) fun x26=>(Z24_q x15 ((x24&&(decide ((0:Int)<((a1.FSels.l.length:Nat):Int))))||(x26&&(decide (((a1.FSels.l.length:Nat):Int)=(0:Int))))) (21:Int) x7).bind fun x27=>on (Z69_q x27.Fd a2) fun x29=>on (bif (!(a1.FName==([95,95,116,121,112,101,110,97,109,101]:Bs))) then(on (Z68_q x29.1 a1.FName) fun x52=>x52.1) else((Z4.mk ([]:Bs) (Sl.nil:Sl Z6) TRef.zero (Sl.nil:Sl TDir)))) fun y32_l0=>(Z28_q x27 y32_l0.FArgs a1.FArgs false x7).bind fun x34=>Option.bind (Z27_q37 a1 x7 y32_l0.FArgs.l x34) fun y39_c0=>some y39_c0) else(some x15)) fun y17_c0=>(Z25_q y17_c0 a1 x12.1 x12.2 x7).bind fun x19=>((fields_checker_sels_qn n) x19 a1.FSels x12.1.FName x7).bind fun x20=>some x20
end
theorem fields_checker_sels_qall:∀n:Nat,fields_checker_sels_n n=fields_checker_sels_qn n/\Z27_n n=Z27_qn n:=by
 intro n;induction n with
 | zero=>exact⟨(by funext a0 a1 a2 a3; first|rfl|(rw [fields_checker_sels_n,fields_checker_sels_qn])),(by funext a0 a1 a2 a3; first|rfl|(rw [Z27_n,Z27_qn]))⟩
 | succ n ih =>
  refine⟨?_, ?_⟩
  ·funext a0 a1 a2 a3
   refine Qs ?_;rw [fields_checker_sels_n,fields_checker_sels_qn];try rw [ih.1]
   try rw [ih.2]
   refine Q.wrapOO fun Kb3 hKb3=>?_;refine fields_checker_sels_l3_qe  Kb3 ?_ _ _ _ ⟨Nat.succ_pos _,by omega⟩;intro n3 s13_4 y5_c0;refine Qe (hKb3 _) ?_;all_goals rfl
  funext a0 a1 a2 a3
  refine Qs ?_;rw [Z27_n,Z27_qn];try rw [ih.1]
  try rw [ih.2]
  refine Q.wrapPO fun Kj3 hKj3=>?_;have hj3:∀(s8_4:Bs),Z27_j3 a0 a1 a2 a3 (fields_checker_sels_qn n) s8_4=Kj3 s8_4:=by
   intro s8_4;refine Qe (hKj3 _) ?_;unfold Z27_j3;refine Q.bindO rfl fun x6=>?_;refine Q.bindO rfl fun x7=>?_;refine Q.bindPO (Z101_eq _) fun x9 hx_x9=>?_;refine Q.bindO (Z24_eq _ _ _ _) fun x10=>?_;refine Q.bindO (Z22_eq _ _ _) fun x12=>?_;refine Q.guardPO (Z67_eq _ _) fun x14 hx_x14=>?_;refine Q.bindO (Z24_eq _ _ _ _) fun x15=>?_;refine Q.wrapOO fun Kj16 hKj16=>?_;have hj16:∀(y17_c0:Z1),Z27_j16 a1 x7 x12 (fields_checker_sels_qn n) y17_c0=Kj16 y17_c0:=by
    intro y17_c0;refine Qe (hKj16 _) ?_;unfold Z27_j16;refine Q.bindO (Z25_eq _ _ _ _ _) fun x19=>?_;refine Q.bindO rfl fun x20=>?_;all_goals rfl
   refine Q.condO ?_ ?_
   ·refine Q.bindPO (Z72_eq _ _) fun x24 hx_x24=>?_;refine Q.guardPO (Z67_eq _ _) fun x26 hx_x26=>?_;refine Q.bindO (Z24_eq _ _ _ _) fun x27=>?_;refine Q.bindPO (Z69_eq _ _) fun x29 hx_x29=>?_;refine Q.wrapPO fun Kj31 hKj31=>?_;have hj31:∀(y32_l0:Z4),Z27_j31 a1 x7 x12 x27 (fields_checker_sels_qn n) y32_l0=Kj31 y32_l0:=by
     intro y32_l0;refine Qe (hKj31 _) ?_;unfold Z27_j31;refine Q.bindO (Z28_eq _ _ _ _ _) fun x34=>?_;refine Q.wrapOO fun Kb37 hKb37=>?_;refine Z27_l37_qe  Kb37 ?_ _ _ _ ⟨Nat.succ_pos _,by omega⟩;intro n37 s122_38 y39_c0;refine Qe (hKb37 _) ?_;all_goals exact hj16 _
    refine Q.condP ?_ ?_
    ·refine Q.bindP (Z68_eq _ _) fun x52 hx_x52=>?_;all_goals exact hj31 _
    all_goals exact hj31 _
   all_goals exact hj16 _
  refine Q.condP ?_ ?_
  ·all_goals exact hj3 _
  all_goals exact hj3 _
def fields_checker_sels_q (a0:Z1) (a1:(Sl TSel)) (a2:Bs) (a3:Bs):Option Z1:=fields_checker_sels_qn F0 a0 a1 a2 a3
theorem fields_checker_sels_eq (a0:Z1) (a1:(Sl TSel)) (a2:Bs) (a3:Bs):fields_checker_sels a0 a1 a2 a3=fields_checker_sels_q a0 a1 a2 a3:=by
 unfold fields_checker_sels fields_checker_sels_q; rw [(fields_checker_sels_qall F0).1]
def Z21_q24 (a0:TDoc):List TOp->Z1->Option (Z1)
 | [],y26_id18_3=>some y26_id18_3
 | h24::r24,y26_id18_3=>on (h24) fun x32=>on (Z73_q x32.FKind) fun x34=>on (Z69_q a0 x34) fun x36=>(Z29_q y26_id18_3 x32.FSels ([]:List Bs) ([]:List Bs)).bind fun x41=>(Z24_q y26_id18_3 (((!x36.2)||(!decide (x36.1.FKind=(1:Int))))||((decide (x32.FKind=(3:Int)))&&(!decide ((((seenM x41.1).length:Nat):Int)=(1:Int))))) (30:Int) x32.FName).bind fun x44=>(fields_checker_sels_q x44 x32.FSels x34 x32.FName).bind fun x45=>Z21_q24 a0 (r24) x45
theorem Z21_l24_qe {a0:TDoc}{a1:Z8}  (Kb24:(Z1)->Option (Sl Z3)) (hend:∀(n24:Nat) (s22_25:Nat) (y26_id18_3:Z1),Z21_j5 a1  y26_id18_3=Kb24 y26_id18_3):∀(n24:Nat) (s22_25:Nat) (y26_id18_3:Z1),(0<n24/\a1.FOps.l.length<s22_25+n24)->Z21_l24 a0 a1 n24 s22_25 y26_id18_3=Option.bind (Z21_q24 a0 (a1.FOps.l.drop s22_25) y26_id18_3) Kb24:=by
 intro n24;induction n24 with
 | zero=>intro s22_25 y26_id18_3 hn; exact absurd hn.1 (by omega)
 | succ n24 ih24 =>
  intro s22_25 y26_id18_3 hn;rw [Z21_l24];by_cases hlt:s22_25<a1.FOps.l.length
  ·obtain⟨h24,hh24⟩:=Qa hlt;rw [Q.drop_of hh24,Z21_q24];refine QT hlt ?_;refine Q.bindPO hh24 fun x32 hx_x32=>?_;refine Q.bindPO (Z73_eq _) fun x34 hx_x34=>?_;refine Q.bindPO (Z69_eq _ _) fun x36 hx_x36=>?_;refine Q.bindO (Z29_eq _ _ _ _) fun x41=>?_;refine Q.bindO (Z24_eq _ _ _ _) fun x44=>?_;refine Q.bindO (fields_checker_sels_eq _ _ _ _) fun x45=>?_;all_goals exact ih24 _ _ ⟨by omega,by omega⟩
  rw [dL (by omega),Z21_q24];refine QF hlt ?_;exact hend n24 s22_25 y26_id18_3
def Z21_q12 :List Z5->Z1->Option (Z1)
 | [],y14_id18_3=>some y14_id18_3
 | h12::r12,y14_id18_3=>on (h12) fun x20=>(fields_checker_sels_q y14_id18_3 x20.FSels x20.FOn x20.FName).bind fun x21=>Z21_q12  (r12) x21
theorem Z21_l12_qe {a1:Z8}  (Kb12:(Z1)->Option (Sl Z3)) (hend:∀(n12:Nat) (s75_13:Nat) (y14_id18_3:Z1),Z21_j7   y14_id18_3=Kb12 y14_id18_3):∀(n12:Nat) (s75_13:Nat) (y14_id18_3:Z1),(0<n12/\a1.FFrags.l.length<s75_13+n12)->Z21_l12 a1 n12 s75_13 y14_id18_3=Option.bind (Z21_q12  (a1.FFrags.l.drop s75_13) y14_id18_3) Kb12:=by
 intro n12;induction n12 with
 | zero=>intro s75_13 y14_id18_3 hn; exact absurd hn.1 (by omega)
 | succ n12 ih12 =>
  intro s75_13 y14_id18_3 hn;rw [Z21_l12];by_cases hlt:s75_13<a1.FFrags.l.length
  ·obtain⟨h12,hh12⟩:=Qa hlt;rw [Q.drop_of hh12,Z21_q12];refine QT hlt ?_;refine Q.bindPO hh12 fun x20 hx_x20=>?_;refine Q.bindO (fields_checker_sels_eq _ _ _ _) fun x21=>?_;all_goals exact ih12 _ _ ⟨by omega,by omega⟩
  rw [dL (by omega),Z21_q12];refine QF hlt ?_;exact hend n12 s75_13 y14_id18_3
def Z21_q (a0:TDoc) (a1:Z8):Option (Sl Z3):=Option.bind (Z21_q24 a0 a1.FOps.l (Z1.mk a0 a1 (Sl.nil:Sl Z3))) fun y26_id18_3=>on (y26_id18_3) fun y6_id18_3=>Option.bind (Z21_q12  a1.FFrags.l y6_id18_3) fun y14_id18_3=>on (y14_id18_3) fun y8_id18_3=>some y8_id18_3.Fout
theorem Z21_eq (a0:TDoc) (a1:Z8):Z21 a0 a1=Z21_q a0 a1:=by
 unfold Z21 Z21_q;refine Qs ?_;refine Q.wrapOO fun Kb24 hKb24=>?_;refine Z21_l24_qe  Kb24 ?_ _ _ _ ⟨Nat.succ_pos _,by omega⟩;intro n24 s22_25 y26_id18_3;refine Qe (hKb24 _) ?_;refine Q.wrapPO fun Kj5 hKj5=>?_;have hj5:∀(y6_id18_3:Z1),Z21_j5 a1 y6_id18_3=Kj5 y6_id18_3:=by
  intro y6_id18_3;refine Qe (hKj5 _) ?_;unfold Z21_j5;refine Q.wrapOO fun Kb12 hKb12=>?_;refine Z21_l12_qe  Kb12 ?_ _ _ _ ⟨Nat.succ_pos _,by omega⟩;intro n12 s75_13 y14_id18_3;refine Qe (hKb12 _) ?_;refine Q.wrapPO fun Kj7 hKj7=>?_;have hj7:∀(y8_id18_3:Z1),Z21_j7  y8_id18_3=Kj7 y8_id18_3:=by
   intro y8_id18_3;refine Qe (hKj7 _) ?_;unfold Z21_j7;all_goals rfl
  all_goals exact hj7 _
 all_goals exact hj5 _
def Z75_q (a0:Z2) (a1:Bool) (a2:Int) (a3:Bs):Option Z2:=bif a1 then((appC 24 a0.Ffaults (⟨false,[(Z3.mk a2 a3)]⟩:Sl Z3)).bind fun x3=>some (Z2.mk a0.Fd x3)) else(some a0)
theorem Z75_eq (a0:Z2) (a1:Bool) (a2:Int) (a3:Bs):Z75 a0 a1 a2 a3=Z75_q a0 a1 a2 a3:=by
 unfold Z75 Z75_q;refine Qs ?_;refine Q.condO ?_ ?_
 ·refine Q.bindO rfl fun x3=>?_;all_goals rfl
 all_goals rfl
def Z100_q12 :List UInt8->Unit ⊕ Bool
 | []=>Sum.inl ()
 | h12::r12=>on (h12) fun x20=>bif (!(((((decide ((97:Int)<=((x20.toNat:Nat):Int)))&&(decide (((x20.toNat:Nat):Int)<=(122:Int))))||((decide ((65:Int)<=((x20.toNat:Nat):Int)))&&(decide (((x20.toNat:Nat):Int)<=(90:Int)))))||((decide ((48:Int)<=((x20.toNat:Nat):Int)))&&(decide (((x20.toNat:Nat):Int)<=(57:Int)))))||(decide (((x20.toNat:Nat):Int)=(95:Int))))) then(Sum.inr false) else(Z100_q12  (r12) )
theorem Z100_l12_qe {a0:Bs}  (Kb12:(Unit ⊕ Bool)->Option Bool) (hend:∀(n12:Nat) (s24_13:Nat),Z100_j8   =Kb12 (Sum.inl ())) (hret:∀e:Bool,some e=Kb12 (Sum.inr e)):∀(n12:Nat) (s24_13:Nat),(0<n12/\a0.length<s24_13+n12)->Z100_l12 a0 n12 s24_13=Kb12 (Z100_q12  (a0.drop s24_13) ):=by
 intro n12;induction n12 with
 | zero=>intro s24_13 hn; exact absurd hn.1 (by omega)
 | succ n12 ih12 =>
  intro s24_13 hn;rw [Z100_l12];by_cases hlt:s24_13<a0.length
  ·obtain⟨h12,hh12⟩:=Qa hlt;rw [Q.drop_of hh12,Z100_q12];refine QT hlt ?_;refine Q.bindP hh12 fun x20 hx_x20=>?_;refine Q.condP ?_ ?_
   ·all_goals exact hret _
   all_goals exact ih12 _ ⟨by omega,by omega⟩
  rw [dL (by omega),Z100_q12];refine QF hlt ?_;exact hend n12 s24_13
def Z100_q (a0:Bs):Option Bool:=guardO (!(((a0==([]:Bs)))||(decide ((64:Int)<((a0.length:Nat):Int))))) (a0[0]?) (0:UInt8) fun x4=>guardO ((!(((a0==([]:Bs)))||(decide ((64:Int)<((a0.length:Nat):Int))))&&(decide ((48:Int)<=((x4.toNat:Nat):Int))))) (a0[0]?) (0:UInt8) fun x5=>bif ((((a0==([]:Bs)))||(decide ((64:Int)<((a0.length:Nat):Int))))||((decide ((48:Int)<=((x4.toNat:Nat):Int)))&&(decide (((x5.toNat:Nat):Int)<=(57:Int))))) then(some false) else(on (Z100_q12  a0 ) fun o12=>match o12 with|Sum.inl _=>(on (()) fun _=>some true)|Sum.inr e12=>(some e12))
theorem Z100_eq (a0:Bs):Z100 a0=Z100_q a0:=by
 unfold Z100 Z100_q;refine Qs ?_;refine Q.guardOO rfl fun x4=>?_;refine Q.guardOO rfl fun x5=>?_;refine Q.condO ?_ ?_
 ·all_goals rfl
 refine Q.wrapPO fun Kb12 hKb12=>?_;refine Z100_l12_qe  Kb12 ?_ ?_ _ _ ⟨Nat.succ_pos _,by omega⟩
 ·intro n12 s24_13;refine Qe (hKb12 _) ?_;try dsimp only
  refine Q.wrapPO fun Kj8 hKj8=>?_;have hj8:Z100_j8  =Kj8 ():=by
   refine Qe (hKj8 _) ?_;unfold Z100_j8;all_goals rfl
  all_goals exact hj8
 intro e12;refine Qe (hKb12 _) ?_;try dsimp only
 all_goals rfl
def Z80_q7 (a1:TDef) (a2:Z2) (k_rec_76:TDef->TDef->Z2->(List Bs)->Option (Bool×(List Bs))):List Z6->(List Bs)->Option (((List Bs)) ⊕ ((Bool×(List Bs))))
 | [],y9_c3=>some (Sum.inl y9_c3)
 | h7::r7,y9_c3=>on (h7) fun x16=>guardO (!(!decide (((x16.FType.FWraps.l.length:Nat):Int)=(1:Int)))) (x16.FType.FWraps.l[0]?) (0:Int) fun x20=>on (fun(y14_c3:(List Bs))=>Z80_q7 a1 a2 k_rec_76 (r7) y14_c3) fun kj13=>bif ((!decide (((x16.FType.FWraps.l.length:Nat):Int)=(1:Int)))||(!decide (x20=(1:Int)))) then(kj13 y9_c3) else(bif ((x16.FType.FName==a1.FName)) then(some (Sum.inr (true,y9_c3))) else(on (Z69_q a2.Fd x16.FType.FName) fun x27=>bif ((x27.2&&(decide (x27.1.FKind=(5:Int))))&&(!(y9_c3.contains x27.1.FName))) then((k_rec_76 x27.1 a1 a2 (insS y9_c3 x27.1.FName)).bind fun x32=>bif x32.1 then(some (Sum.inr (true,x32.2))) else(kj13 x32.2)) else(kj13 y9_c3)))
theorem Z80_l7_qe {a0:TDef}{a1:TDef}{a2:Z2}{k_rec_76:TDef->TDef->Z2->(List Bs)->Option (Bool×(List Bs))}  (Kb7:(((List Bs)) ⊕ ((Bool×(List Bs))))->Option (Bool×(List Bs))) (hend:∀(n7:Nat) (s14_8:Nat) (y9_c3:(List Bs)),Z80_j2   y9_c3=Kb7 (Sum.inl y9_c3)) (hret:∀e:(Bool×(List Bs)),some e=Kb7 (Sum.inr e)):∀(n7:Nat) (s14_8:Nat) (y9_c3:(List Bs)),(0<n7/\a0.FInputs.l.length<s14_8+n7)->Z80_l7 a0 a1 a2 k_rec_76 n7 s14_8 y9_c3=Option.bind (Z80_q7 a1 a2 k_rec_76 (a0.FInputs.l.drop s14_8) y9_c3) Kb7:=by
 intro n7;induction n7 with
 | zero=>intro s14_8 y9_c3 hn; exact absurd hn.1 (by omega)
 | succ n7 ih7 =>
  intro s14_8 y9_c3 hn;rw [Z80_l7];by_cases hlt:s14_8<a0.FInputs.l.length
  ·obtain⟨h7,hh7⟩:=Qa hlt;rw [Q.drop_of hh7,Z80_q7];refine QT hlt ?_;refine Q.bindPO hh7 fun x16 hx_x16=>?_;refine Q.guardOO rfl fun x20=>?_;refine Q.mixO fun kj13 hkj13=>?_;have hj13:∀(y14_c3:(List Bs)),Z80_j13 s14_8 (Z80_l7 a0 a1 a2 k_rec_76 n7) y14_c3=Option.bind (kj13 y14_c3) Kb7:=by
    intro y14_c3;unfold Z80_j13;rw [hkj13];try dsimp only
    all_goals exact ih7 _ _ ⟨by omega,by omega⟩
   refine Q.condO ?_ ?_
   ·all_goals exact hj13 _
   refine Q.condO ?_ ?_
   ·all_goals exact hret _
   refine Q.bindPO (Z69_eq _ _) fun x27 hx_x27=>?_;refine Q.condO ?_ ?_
   ·refine Q.bindO rfl fun x32=>?_;refine Q.condO ?_ ?_
    ·all_goals exact hret _
    all_goals exact hj13 _
   all_goals exact hj13 _
  rw [dL (by omega),Z80_q7];refine QF hlt ?_;exact hend n7 s14_8 y9_c3
def Z80_qn:Nat->TDef->TDef->Z2->(List Bs)->Option (Bool×(List Bs))
 | 0,_,_,_,_=>none
 | n+1,a0,a1,a2,a3=>Option.bind (Z80_q7 a1 a2 (Z80_qn n) a0.FInputs.l a3) fun o7=>match o7 with|Sum.inl y9_c3=>(on (y9_c3) fun y3_c3=>some (false,y3_c3))|Sum.inr e7=>(some e7)
theorem Z80_qall:∀n:Nat,Z80_n n=Z80_qn n:=by
 intro n;induction n with
 | zero=>exact(by funext a0 a1 a2 a3; first|rfl|(rw [Z80_n,Z80_qn]))
 | succ n ih =>
  funext a0 a1 a2 a3
  refine Qs ?_;rw [Z80_n,Z80_qn];try rw [ih]
  refine Q.wrapOO fun Kb7 hKb7=>?_;refine Z80_l7_qe  Kb7 ?_ ?_ _ _ _ ⟨Nat.succ_pos _,by omega⟩
  ·intro n7 s14_8 y9_c3;refine Qe (hKb7 _) ?_;try dsimp only
   refine Q.wrapPO fun Kj2 hKj2=>?_;have hj2:∀(y3_c3:(List Bs)),Z80_j2  y3_c3=Kj2 y3_c3:=by
    intro y3_c3;refine Qe (hKj2 _) ?_;unfold Z80_j2;all_goals rfl
   all_goals exact hj2 _
  intro e7;refine Qe (hKb7 _) ?_;try dsimp only
  all_goals rfl
def Z80_q (a0:TDef) (a1:TDef) (a2:Z2) (a3:(List Bs)):Option (Bool×(List Bs)):=Z80_qn F0 a0 a1 a2 a3
theorem Z80_eq (a0:TDef) (a1:TDef) (a2:Z2) (a3:(List Bs)):Z80 a0 a1 a2 a3=Z80_q a0 a1 a2 a3:=by
 unfold Z80 Z80_q; rw [(Z80_qall F0)]
def Z79_q (a0:Z2) (a1:TDef):Option Bool:=(Z80_q a1 a1 a0 ([]:List Bs)).bind fun x8=>some x8.1
theorem Z79_eq (a0:Z2) (a1:TDef):Z79 a0 a1=Z79_q a0 a1:=by
 unfold Z79 Z79_q;refine Qs ?_;refine Q.bindO (Z80_eq _ _ _ _) fun x8=>?_;all_goals rfl
def Z82_q (a0:Z2) (a1:Bs) (a2:Bs) (a3:(List Bs)):Option (Z2×(List Bs)):=(Z100_q a1).bind fun x2=>on (bif !(!x2) then Z101_q a1 else false) fun x3=>(Z75_q a0 ((!x2)||x3) (6:Int) a2).bind fun x4=>(Z75_q x4 (a3.contains a1) (7:Int) a2).bind fun x6=>some (x6,(insS a3 a1))
theorem Z82_eq (a0:Z2) (a1:Bs) (a2:Bs) (a3:(List Bs)):Z82 a0 a1 a2 a3=Z82_q a0 a1 a2 a3:=by
 unfold Z82 Z82_q;refine Qs ?_;refine Q.bindO (Z100_eq _) fun x2=>?_;refine Q.guardPO (Z101_eq _) fun x3 hx_x3=>?_;refine Q.bindO (Z75_eq _ _ _ _) fun x4=>?_;refine Q.bindO (Z75_eq _ _ _ _) fun x6=>?_;all_goals rfl
def Z83_q (a0:Z2) (a1:Bs) (a2:Bs) (a3:Int):Option Z2:=on (Z69_q a0.Fd a1) fun x2=>on (bif (!x2.2) then Z74_q a1 else false) fun x4=>bif ((!x2.2)&&(!x4)) then((Z75_q a0 true (8:Int) a2).bind fun x6=>some x6) else(bif (decide (a3=(0:Int))) then(on (Z74_q a1) fun x9=>on (bif (!x9) then Z84_q a0.Fd a1 else(0:Int)) fun x10=>(Z75_q a0 ((!x9)&&(decide (x10=(5:Int)))) (10:Int) a2).bind fun x11=>some x11) else(on (Z71_q a0.Fd a1) fun x12=>(Z75_q a0 (!x12) (10:Int) a2).bind fun x13=>some x13))
theorem Z83_eq (a0:Z2) (a1:Bs) (a2:Bs) (a3:Int):Z83 a0 a1 a2 a3=Z83_q a0 a1 a2 a3:=by
 unfold Z83 Z83_q;refine Qs ?_;refine Q.bindPO (Z69_eq _ _) fun x2 hx_x2=>?_;refine Q.guardPO (Z74_eq _) fun x4 hx_x4=>?_;refine Q.condO ?_ ?_
 ·refine Q.bindO (Z75_eq _ _ _ _) fun x6=>?_;all_goals rfl
 refine Q.condO ?_ ?_
 ·refine Q.bindPO (Z74_eq _) fun x9 hx_x9=>?_;refine Q.guardPO (Z84_eq _ _) fun x10 hx_x10=>?_;refine Q.bindO (Z75_eq _ _ _ _) fun x11=>?_;all_goals rfl
 refine Q.bindPO (Z71_eq _ _) fun x12 hx_x12=>?_;refine Q.bindO (Z75_eq _ _ _ _) fun x13=>?_;all_goals rfl
def Z78_q5 (a2:Bs) (a3:Bs):List Z6->Z2->(List Bs)->Option (Z2)
 | [],y7_c0,y8_id12_2=>some y7_c0
 | h5::r5,y7_c0,y8_id12_2=>on (h5) fun x14=>(catC a2 x14.FName).bind fun x16=>(catC x16 a3).bind fun x17=>(Z82_q y7_c0 x14.FName x17 y8_id12_2).bind fun x19=>(Z83_q x19.1 x14.FType.FName x17 (1:Int)).bind fun x20=>Z78_q5 a2 a3 (r5) x20 x19.2
theorem Z78_l5_qe {a1:(Sl Z6)}{a2:Bs}{a3:Bs}  (Kb5:(Z2)->Option Z2) (hend:∀(n5:Nat) (s15_6:Nat) (y7_c0:Z2) (y8_id12_2:(List Bs)),some y7_c0=Kb5 y7_c0):∀(n5:Nat) (s15_6:Nat) (y7_c0:Z2) (y8_id12_2:(List Bs)),(0<n5/\a1.l.length<s15_6+n5)->Z78_l5 a1 a2 a3 n5 s15_6 y7_c0 y8_id12_2=Option.bind (Z78_q5 a2 a3 (a1.l.drop s15_6) y7_c0 y8_id12_2) Kb5:=by
 intro n5;induction n5 with
 | zero=>intro s15_6 y7_c0 y8_id12_2 hn; exact absurd hn.1 (by omega)
 | succ n5 ih5 =>
  intro s15_6 y7_c0 y8_id12_2 hn;rw [Z78_l5];by_cases hlt:s15_6<a1.l.length
  ·obtain⟨h5,hh5⟩:=Qa hlt;rw [Q.drop_of hh5,Z78_q5];refine QT hlt ?_;refine Q.bindPO hh5 fun x14 hx_x14=>?_;refine Q.bindO rfl fun x16=>?_;refine Q.bindO rfl fun x17=>?_;refine Q.bindO (Z82_eq _ _ _ _) fun x19=>?_;refine Q.bindO (Z83_eq _ _ _ _) fun x20=>?_;all_goals exact ih5 _ _ _ ⟨by omega,by omega⟩
  rw [dL (by omega),Z78_q5];refine QF hlt ?_;exact hend n5 s15_6 y7_c0 y8_id12_2
def Z78_q (a0:Z2) (a1:(Sl Z6)) (a2:Bs) (a3:Bs):Option Z2:=Option.bind (Z78_q5 a2 a3 a1.l a0 ([]:List Bs)) fun y7_c0=>some y7_c0
theorem Z78_eq (a0:Z2) (a1:(Sl Z6)) (a2:Bs) (a3:Bs):Z78 a0 a1 a2 a3=Z78_q a0 a1 a2 a3:=by
 unfold Z78 Z78_q;refine Qs ?_;refine Q.wrapOO fun Kb5 hKb5=>?_;refine Z78_l5_qe  Kb5 ?_ _ _ _ _ ⟨Nat.succ_pos _,by omega⟩;intro n5 s15_6 y7_c0 y8_id12_2;refine Qe (hKb5 _) ?_;all_goals rfl
def Z77_q6 (a1:TDef):List Z4->Z2->(List Bs)->Option (Z2)
 | [],y8_c0,y9_id8_3=>some y8_c0
 | h6::r6,y8_c0,y9_id8_3=>on (h6) fun x15=>(catC a1.FName ([46]:Bs)).bind fun x17=>(catC x17 x15.FName).bind fun x18=>(Z82_q y8_c0 x15.FName x18 y9_id8_3).bind fun x20=>(Z83_q x20.1 x15.FType.FName x18 (0:Int)).bind fun x22=>(catC x18 ([40]:Bs)).bind fun x23=>(Z78_q x22 x15.FArgs x23 ([41]:Bs)).bind fun x24=>Z77_q6 a1 (r6) x24 x20.2
theorem Z77_l6_qe {a1:TDef}  (Kb6:(Z2)->Option Z2) (hend:∀(n6:Nat) (s12_7:Nat) (y8_c0:Z2) (y9_id8_3:(List Bs)),some y8_c0=Kb6 y8_c0):∀(n6:Nat) (s12_7:Nat) (y8_c0:Z2) (y9_id8_3:(List Bs)),(0<n6/\a1.FFields.l.length<s12_7+n6)->Z77_l6 a1 n6 s12_7 y8_c0 y9_id8_3=Option.bind (Z77_q6 a1 (a1.FFields.l.drop s12_7) y8_c0 y9_id8_3) Kb6:=by
 intro n6;induction n6 with
 | zero=>intro s12_7 y8_c0 y9_id8_3 hn; exact absurd hn.1 (by omega)
 | succ n6 ih6 =>
  intro s12_7 y8_c0 y9_id8_3 hn;rw [Z77_l6];by_cases hlt:s12_7<a1.FFields.l.length
  ·obtain⟨h6,hh6⟩:=Qa hlt;rw [Q.drop_of hh6,Z77_q6];refine QT hlt ?_;refine Q.bindPO hh6 fun x15 hx_x15=>?_;refine Q.bindO rfl fun x17=>?_;refine Q.bindO rfl fun x18=>?_;refine Q.bindO (Z82_eq _ _ _ _) fun x20=>?_;refine Q.bindO (Z83_eq _ _ _ _) fun x22=>?_;refine Q.bindO rfl fun x23=>?_;refine Q.bindO (Z78_eq _ _ _ _) fun x24=>?_;all_goals exact ih6 _ _ _ ⟨by omega,by omega⟩
  rw [dL (by omega),Z77_q6];refine QF hlt ?_;exact hend n6 s12_7 y8_c0 y9_id8_3
def Z77_q (a0:Z2) (a1:TDef):Option Z2:=Option.bind (Z77_q6 a1 a1.FFields.l a0 ([]:List Bs)) fun y8_c0=>some y8_c0
theorem Z77_eq (a0:Z2) (a1:TDef):Z77 a0 a1=Z77_q a0 a1:=by
 unfold Z77 Z77_q;refine Qs ?_;refine Q.wrapOO fun Kb6 hKb6=>?_;refine Z77_l6_qe  Kb6 ?_ _ _ _ _ ⟨Nat.succ_pos _,by omega⟩;intro n6 s12_7 y8_c0 y9_id8_3;refine Qe (hKb6 _) ?_;all_goals rfl
def Z81_q6 (a1:TDef):List Z7->Z2->(List Bs)->Option (Z2)
 | [],y8_c0,y9_id9_3=>some y8_c0
 | h6::r6,y8_c0,y9_id9_3=>on (h6) fun x15=>(catC a1.FName ([46]:Bs)).bind fun x17=>(catC x17 x15.FName).bind fun x18=>guardO (!((((x15.FName==([116,114,117,101]:Bs)))||((x15.FName==([102,97,108,115,101]:Bs))))||((x15.FName==([110,117,108,108]:Bs))))) (Z100_q x15.FName) false fun x21=>on (bif !(((((x15.FName==([116,114,117,101]:Bs)))||((x15.FName==([102,97,108,115,101]:Bs))))||((x15.FName==([110,117,108,108]:Bs))))||(!x21)) then Z101_q x15.FName else false) fun x22=>(Z75_q y8_c0 ((((((x15.FName==([116,114,117,101]:Bs)))||((x15.FName==([102,97,108,115,101]:Bs))))||((x15.FName==([110,117,108,108]:Bs))))||(!x21))||x22) (6:Int) x18).bind fun x23=>(Z75_q x23 (y9_id9_3.contains x15.FName) (7:Int) x18).bind fun x25=>Z81_q6 a1 (r6) x25 (insS y9_id9_3 x15.FName)
theorem Z81_l6_qe {a1:TDef}  (Kb6:(Z2)->Option Z2) (hend:∀(n6:Nat) (s13_7:Nat) (y8_c0:Z2) (y9_id9_3:(List Bs)),some y8_c0=Kb6 y8_c0):∀(n6:Nat) (s13_7:Nat) (y8_c0:Z2) (y9_id9_3:(List Bs)),(0<n6/\a1.FMembers.l.length<s13_7+n6)->Z81_l6 a1 n6 s13_7 y8_c0 y9_id9_3=Option.bind (Z81_q6 a1 (a1.FMembers.l.drop s13_7) y8_c0 y9_id9_3) Kb6:=by
 intro n6;induction n6 with
 | zero=>intro s13_7 y8_c0 y9_id9_3 hn; exact absurd hn.1 (by omega)
 | succ n6 ih6 =>
  intro s13_7 y8_c0 y9_id9_3 hn;rw [Z81_l6];by_cases hlt:s13_7<a1.FMembers.l.length
  ·obtain⟨h6,hh6⟩:=Qa hlt;rw [Q.drop_of hh6,Z81_q6];refine QT hlt ?_;refine Q.bindPO hh6 fun x15 hx_x15=>?_;refine Q.bindO rfl fun x17=>?_;refine Q.bindO rfl fun x18=>?_;refine Q.guardOO (Z100_eq _) fun x21=>?_;refine Q.guardPO (Z101_eq _) fun x22 hx_x22=>?_;refine Q.bindO (Z75_eq _ _ _ _) fun x23=>?_;refine Q.bindO (Z75_eq _ _ _ _) fun x25=>?_;all_goals exact ih6 _ _ _ ⟨by omega,by omega⟩
  rw [dL (by omega),Z81_q6];refine QF hlt ?_;exact hend n6 s13_7 y8_c0 y9_id9_3
def Z81_q (a0:Z2) (a1:TDef):Option Z2:=Option.bind (Z81_q6 a1 a1.FMembers.l a0 ([]:List Bs)) fun y8_c0=>some y8_c0
theorem Z81_eq (a0:Z2) (a1:TDef):Z81 a0 a1=Z81_q a0 a1:=by
 unfold Z81 Z81_q;refine Qs ?_;refine Q.wrapOO fun Kb6 hKb6=>?_;refine Z81_l6_qe  Kb6 ?_ _ _ _ _ ⟨Nat.succ_pos _,by omega⟩;intro n6 s13_7 y8_c0 y9_id9_3;refine Qe (hKb6 _) ?_;all_goals rfl
def Z76_q (a0:Z2) (a1:Int) (a2:(List Bs)):Option (Z2×(List Bs)):=(idxC a0.Fd.FDefs.l a1).bind fun x2=>(Z100_q x2.FName).bind fun x4=>on (bif !(!x4) then Z101_q x2.FName else false) fun x5=>(Z75_q a0 ((!x4)||x5) (6:Int) x2.FName).bind fun x6=>on (bif !(a2.contains x2.FName) then Z74_q x2.FName else false) fun x8=>(Z75_q x6 ((a2.contains x2.FName)||x8) (7:Int) x2.FName).bind fun x9=>on (bif (decide (x2.FKind=(1:Int))) then((decide (x2.FKind=(1:Int)))) else((decide (x2.FKind=(2:Int))))) fun s48_38=>on (bif s48_38 then((decide (((x2.FFields.l.length:Nat):Int)=(0:Int)))) else(on (bif (decide (x2.FKind=(3:Int))) then((decide (x2.FKind=(3:Int)))) else((decide (x2.FKind=(4:Int))))) fun s55_42=>bif s55_42 then((decide (((x2.FMembers.l.length:Nat):Int)=(0:Int)))) else(bif (decide (x2.FKind=(5:Int))) then((decide (((x2.FInputs.l.length:Nat):Int)=(0:Int)))) else(false)))) fun s7_13=>(Z75_q x9 s7_13 (8:Int) x2.FName).bind fun x15=>(Z75_q x15 (((((((x2.FName==([81,117,101,114,121]:Bs)))||((x2.FName==([77,117,116,97,116,105,111,110]:Bs))))||((x2.FName==([83,117,98,115,99,114,105,112,116,105,111,110]:Bs))))&&(!decide (x2.FKind=(1:Int))))||(decide (x2.FKind<(1:Int))))||(decide ((5:Int)<x2.FKind))) (9:Int) x2.FName).bind fun x18=>guardO ((decide (x2.FKind=(5:Int)))) (Z79_q x18 x2) false fun x20=>(Z75_q x18 ((decide (x2.FKind=(5:Int)))&&x20) (5:Int) x2.FName).bind fun x21=>on (bif (decide (x2.FKind=(1:Int))) then((decide (x2.FKind=(1:Int)))) else((decide (x2.FKind=(2:Int))))) fun s120_24=>bif s120_24 then((Z77_q x21 x2).bind fun x26=>some (x26,(insS a2 x2.FName))) else(bif (decide (x2.FKind=(4:Int))) then((Z81_q x21 x2).bind fun x29=>some (x29,(insS a2 x2.FName))) else(bif (decide (x2.FKind=(5:Int))) then((catC x2.FName ([46]:Bs)).bind fun x32=>(Z78_q x21 x2.FInputs x32 ([]:Bs)).bind fun x33=>some (x33,(insS a2 x2.FName))) else(some (x21,(insS a2 x2.FName)))))
theorem Z76_eq (a0:Z2) (a1:Int) (a2:(List Bs)):Z76 a0 a1 a2=Z76_q a0 a1 a2:=by
 unfold Z76 Z76_q;refine Qs ?_;refine Q.bindO rfl fun x2=>?_;refine Q.bindO (Z100_eq _) fun x4=>?_;refine Q.guardPO (Z101_eq _) fun x5 hx_x5=>?_;refine Q.bindO (Z75_eq _ _ _ _) fun x6=>?_;refine Q.guardPO (Z74_eq _) fun x8 hx_x8=>?_;refine Q.bindO (Z75_eq _ _ _ _) fun x9=>?_;refine Q.wrapPO fun Kj37 hKj37=>?_;have hj37:∀(s48_38:Bool),Z76_j37 a2 x2 x9 s48_38=Kj37 s48_38:=by
  intro s48_38;refine Qe (hKj37 _) ?_;unfold Z76_j37;refine Q.wrapPO fun Kj12 hKj12=>?_;have hj12:∀(s7_13:Bool),Z76_j12 a2 x2 x9 s7_13=Kj12 s7_13:=by
   intro s7_13;refine Qe (hKj12 _) ?_;unfold Z76_j12;refine Q.bindO (Z75_eq _ _ _ _) fun x15=>?_;refine Q.bindO (Z75_eq _ _ _ _) fun x18=>?_;refine Q.guardOO (Z79_eq _ _) fun x20=>?_;refine Q.bindO (Z75_eq _ _ _ _) fun x21=>?_;refine Q.wrapPO fun Kj23 hKj23=>?_;have hj23:∀(s120_24:Bool),Z76_j23 a2 x2 x21 s120_24=Kj23 s120_24:=by
    intro s120_24;refine Qe (hKj23 _) ?_;unfold Z76_j23;refine Q.condO ?_ ?_
    ·refine Q.bindO (Z77_eq _ _) fun x26=>?_;all_goals rfl
    refine Q.condO ?_ ?_
    ·refine Q.bindO (Z81_eq _ _) fun x29=>?_;all_goals rfl
    refine Q.condO ?_ ?_
    ·refine Q.bindO rfl fun x32=>?_;refine Q.bindO (Z78_eq _ _ _ _) fun x33=>?_;all_goals rfl
    all_goals rfl
   refine Q.condP ?_ ?_
   ·all_goals exact hj23 _
   all_goals exact hj23 _
  refine Q.condP ?_ ?_
  ·all_goals exact hj12 _
  refine Q.wrapPP fun Kj41 hKj41=>?_;have hj41:∀(s55_42:Bool),Z76_j41 a2 x2 x9 s55_42=Kj41 s55_42:=by
   intro s55_42;refine Qe (hKj41 _) ?_;unfold Z76_j41;refine Q.condP ?_ ?_
   ·all_goals exact hj12 _
   refine Q.condP ?_ ?_
   ·all_goals exact hj12 _
   all_goals exact hj12 _
  refine Q.condP ?_ ?_
  ·all_goals exact hj41 _
  all_goals exact hj41 _
 refine Q.condP ?_ ?_
 ·all_goals exact hj37 _
 all_goals exact hj37 _
end Go.Proofs

namespace Go.Proofs
open Go Go.Ab
def Z66_q20 :List TDef->Nat->Z2->(List Bs)->Option (Z2)
 | [],s17_21,y22_id12_3,y23_id13_6=>some y22_id12_3
 | h20::r20,s17_21,y22_id12_3,y23_id13_6=>(Z76_q y22_id12_3 ((s17_21:Nat):Int) y23_id13_6).bind fun x29=>Z66_q20  (r20) (s17_21+1) x29.1 x29.2
theorem Z66_l20_qe {a0:TDoc}{a1:Bool}  (Kb20:(Z2)->Option (Sl Z3)) (hend:∀(n20:Nat) (s17_21:Nat) (y22_id12_3:Z2) (y23_id13_6:(List Bs)),Z66_j7 a0 a1  y22_id12_3 y23_id13_6=Kb20 y22_id12_3):∀(n20:Nat) (s17_21:Nat) (y22_id12_3:Z2) (y23_id13_6:(List Bs)),(0<n20/\a0.FDefs.l.length<s17_21+n20)->Z66_l20 a0 a1 n20 s17_21 y22_id12_3 y23_id13_6=Option.bind (Z66_q20  (a0.FDefs.l.drop s17_21) s17_21 y22_id12_3 y23_id13_6) Kb20:=by
 intro n20;induction n20 with
 | zero=>intro s17_21 y22_id12_3 y23_id13_6 hn; exact absurd hn.1 (by omega)
 | succ n20 ih20 =>
  intro s17_21 y22_id12_3 y23_id13_6 hn;rw [Z66_l20];by_cases hlt:s17_21<a0.FDefs.l.length
  ·obtain⟨h20,hh20⟩:=Qa hlt;rw [Q.drop_of hh20,Z66_q20];refine QT hlt ?_;refine Q.bindO (Z76_eq _ _ _) fun x29=>?_;all_goals exact ih20 _ _ _ ⟨by omega,by omega⟩
  rw [dL (by omega),Z66_q20];refine QF hlt ?_;exact hend n20 s17_21 y22_id12_3 y23_id13_6
def Z66_q (a0:TDoc) (a1:Bool):Option (Sl Z3):=Option.bind (Z66_q20  a0.FDefs.l 0 (Z2.mk a0 (Sl.nil:Sl Z3)) ([]:List Bs)) fun y22_id12_3=>on (y22_id12_3) fun y8_id12_3=>on (Z69_q a0 ([81,117,101,114,121]:Bs)) fun x14=>Option.bind (bif (a1&&(!x14.2)) then((Z75_q y8_id12_3 true (30:Int) ([81,117,101,114,121]:Bs)).bind fun x17=>some x17) else(some y8_id12_3)) fun y11_id12_3=>some y11_id12_3.Ffaults
theorem Z66_eq (a0:TDoc) (a1:Bool):Z66 a0 a1=Z66_q a0 a1:=by
 unfold Z66 Z66_q;refine Qs ?_;refine Q.wrapOO fun Kb20 hKb20=>?_;refine Z66_l20_qe  Kb20 ?_ _ _ _ _ ⟨Nat.succ_pos _,by omega⟩;intro n20 s17_21 y22_id12_3 y23_id13_6;refine Qe (hKb20 _) ?_;refine Q.wrapPO fun Kj7 hKj7=>?_;have hj7:∀(y8_id12_3:Z2) (y9_id13_6:(List Bs)),Z66_j7 a0 a1 y8_id12_3 y9_id13_6=Kj7 y8_id12_3:=by
  intro y8_id12_3 y9_id13_6;refine Qe (hKj7 _) ?_;unfold Z66_j7;refine Q.bindPO (Z69_eq _ _) fun x14 hx_x14=>?_;refine Q.wrapOO fun Kj10 hKj10=>?_;have hj10:∀(y11_id12_3:Z2),Z66_j10  y11_id12_3=Kj10 y11_id12_3:=by
   intro y11_id12_3;refine Qe (hKj10 _) ?_;unfold Z66_j10;all_goals rfl
  refine Q.condO ?_ ?_
  ·refine Q.bindO (Z75_eq _ _ _ _) fun x17=>?_;all_goals exact hj10 _
  all_goals exact hj10 _
 all_goals exact hj7 _ _
def Z86_q (a0:(Sl Bs)):Option (Sl Bs):=bif a0.nl then(some (Sl.nil:Sl Bs)) else((appC 16 (⟨false,[]⟩:Sl Bs) a0).bind fun x7=>some x7)
theorem Z86_eq (a0:(Sl Bs)):Z86 a0=Z86_q a0:=by
 unfold Z86 Z86_q;refine Qs ?_;refine Q.condO ?_ ?_
 ·all_goals rfl
 refine Q.bindO rfl fun x7=>?_;all_goals rfl
def Z110_q8 (k_rec_64:Z9->Option Z9):List Z9->(Sl Z9)->Option ((Sl Z9))
 | [],s3_9=>some s3_9
 | h8::r8,s3_9=>on (h8) fun x16=>(k_rec_64 x16).bind fun x17=>(appC 80 s3_9 (⟨false,[x17]⟩:Sl Z9)).bind fun x18=>Z110_q8 k_rec_64 (r8) x18
theorem Z110_l8_qe {a0:(Sl Z9)}{k_rec_64:Z9->Option Z9}  (Kb8:((Sl Z9))->Option (Sl Z9)) (hend:∀(n8:Nat) (s3_9:(Sl Z9)) (s8_10:Nat),Z110_j3   s3_9=Kb8 s3_9):∀(n8:Nat) (s3_9:(Sl Z9)) (s8_10:Nat),(0<n8/\a0.l.length<s8_10+n8)->Z110_l8 a0 k_rec_64 n8 s3_9 s8_10=Option.bind (Z110_q8 k_rec_64 (a0.l.drop s8_10) s3_9) Kb8:=by
 intro n8;induction n8 with
 | zero=>intro s3_9 s8_10 hn; exact absurd hn.1 (by omega)
 | succ n8 ih8 =>
  intro s3_9 s8_10 hn;rw [Z110_l8];by_cases hlt:s8_10<a0.l.length
  ·obtain⟨h8,hh8⟩:=Qa hlt;rw [Q.drop_of hh8,Z110_q8];refine QT hlt ?_;refine Q.bindPO hh8 fun x16 hx_x16=>?_;refine Q.bindO rfl fun x17=>?_;refine Q.bindO rfl fun x18=>?_;all_goals exact ih8 _ _ ⟨by omega,by omega⟩
  rw [dL (by omega),Z110_q8];refine QF hlt ?_;exact hend n8 s3_9 s8_10
mutual
def value_Copy_qn:Nat->Z9->Option Z9
 | 0,_=>none
 | n+1,a0=>((Z110_qn n) a0.FItems).bind fun x3=>(Z86_q a0.FKeys).bind fun x5=>some (Z9.mk a0.FKind a0.FInt a0.FText x3.nl x3.l x5)
def Z110_qn:Nat->(Sl Z9)->Option (Sl Z9)
 | 0,_=>none
 | n+1,a0=>Option.bind (Z110_q8 (value_Copy_qn n) a0.l (Sl.nil:Sl Z9)) fun s3_9=>on (s3_9) fun s3_4=>some s3_4
end
theorem value_Copy_qall:∀n:Nat,value_Copy_n n=value_Copy_qn n/\Z110_n n=Z110_qn n:=by
 intro n;induction n with
 | zero=>exact⟨(by funext a0; first|rfl|(rw [value_Copy_n,value_Copy_qn])),(by funext a0; first|rfl|(rw [Z110_n,Z110_qn]))⟩
 | succ n ih =>
  refine⟨?_, ?_⟩
  ·funext a0
   refine Qs ?_;rw [value_Copy_n,value_Copy_qn];try rw [ih.1]
   try rw [ih.2]
   refine Q.bindO rfl fun x3=>?_;refine Q.bindO (Z86_eq _) fun x5=>?_;all_goals rfl
  funext a0
  refine Qs ?_;rw [Z110_n,Z110_qn];try rw [ih.1]
  try rw [ih.2]
  refine Q.wrapOO fun Kb8 hKb8=>?_;refine Z110_l8_qe  Kb8 ?_ _ _ _ ⟨Nat.succ_pos _,by omega⟩;intro n8 s3_9 s8_10;refine Qe (hKb8 _) ?_;refine Q.wrapPO fun Kj3 hKj3=>?_;have hj3:∀(s3_4:(Sl Z9)),Z110_j3  s3_4=Kj3 s3_4:=by
   intro s3_4;refine Qe (hKj3 _) ?_;unfold Z110_j3;all_goals rfl
  all_goals exact hj3 _
def value_Copy_q (a0:Z9):Option Z9:=value_Copy_qn F0 a0
theorem value_Copy_eq (a0:Z9):value_Copy a0=value_Copy_q a0:=by
 unfold value_Copy value_Copy_q; rw [(value_Copy_qall F0).1]
def Z108_q (a0:Z9) (a1:Bs):Option (Z9×Bool):=on (Z96_q a0.FKeys a1) fun x3=>bif (((!decide (a0.FKind=(6:Int)))||(decide (x3<(0:Int))))||(decide (((a0.FItems.l.length:Nat):Int)<=x3))) then(some ((Z9.mk (0:Int) (0:Int) ([]:Bs) true ([]) (Sl.nil:Sl Bs)),false)) else((idxC a0.FItems.l x3).bind fun x9=>(value_Copy_q x9).bind fun x10=>some (x10,true))
theorem Z108_eq (a0:Z9) (a1:Bs):Z108 a0 a1=Z108_q a0 a1:=by
 unfold Z108 Z108_q;refine Qs ?_;refine Q.bindPO (Z96_eq _ _) fun x3 hx_x3=>?_;refine Q.condO ?_ ?_
 ·all_goals rfl
 refine Q.bindO rfl fun x9=>?_;refine Q.bindO (value_Copy_eq _) fun x10=>?_;all_goals rfl
def Z16_q (a0:Z0) (a1:Z9):Option Bool:=bif ((!decide (a1.FKind=(7:Int)))||(!a0.Fliteral)) then(some false) else((Z108_q a0.Fvars a1.FText).bind fun x7=>some (!x7.2))
theorem Z16_eq (a0:Z0) (a1:Z9):Z16 a0 a1=Z16_q a0 a1:=by
 unfold Z16 Z16_q;refine Qs ?_;refine Q.condO ?_ ?_
 ·all_goals rfl
 refine Q.bindO (Z108_eq _ _) fun x7=>?_;all_goals rfl
def Z20_q (a0:Z9) (a1:Int):Option (Z9×Int):=bif (!decide (a1=(0:Int))) then(some ((Z9.mk (0:Int) (0:Int) ([]:Bs) true ([]) (Sl.nil:Sl Bs)),a1)) else((value_Copy_q a0).bind fun x7=>some (x7,(0:Int)))
theorem Z20_eq (a0:Z9) (a1:Int):Z20 a0 a1=Z20_q a0 a1:=by
 unfold Z20 Z20_q;refine Qs ?_;refine Q.condO ?_ ?_
 ·all_goals rfl
 refine Q.bindO (value_Copy_eq _) fun x7=>?_;all_goals rfl
def Z13_q (a0:Z0) (a1:Int):Option (Int×Z0):=bif (decide ((24:Int)<a1)) then(some ((5:Int),a0)) else((addC a0.Fnodes (1:Int)).bind fun x7=>bif (decide ((4096:Int)<x7)) then(some ((4:Int),(Z0.mk a0.Fd a0.Fvars a0.Fliteral x7))) else(some ((0:Int),(Z0.mk a0.Fd a0.Fvars a0.Fliteral x7))))
theorem Z13_eq (a0:Z0) (a1:Int):Z13 a0 a1=Z13_q a0 a1:=by
 unfold Z13 Z13_q;refine Qs ?_;refine Q.condO ?_ ?_
 ·all_goals rfl
 refine Q.bindO rfl fun x7=>?_;refine Q.condO ?_ ?_
 ·all_goals rfl
 all_goals rfl
def Z19_q13 (a2:Int) (k_rec_65:Z0->Z9->Int->Option (Int×Z0)):List Z9->Z0->Option (Z0 ⊕ ((Int×Z0)))
 | [],y15_c0=>some (Sum.inl y15_c0)
 | h13::r13,y15_c0=>on (h13) fun x21=>(addC a2 (1:Int)).bind fun x23=>(k_rec_65 y15_c0 x21 x23).bind fun x24=>bif (!decide (x24.1=(0:Int))) then(some (Sum.inr (x24.1,x24.2))) else(Z19_q13 a2 k_rec_65 (r13) x24.2)
theorem Z19_l13_qe {a1:Z9}{a2:Int}{k_rec_65:Z0->Z9->Int->Option (Int×Z0)}  (Kb13:(Z0 ⊕ ((Int×Z0)))->Option (Int×Z0)) (hend:∀(n13:Nat) (s20_14:Nat) (y15_c0:Z0),Z19_j8   y15_c0=Kb13 (Sum.inl y15_c0)) (hret:∀e:(Int×Z0),some e=Kb13 (Sum.inr e)):∀(n13:Nat) (s20_14:Nat) (y15_c0:Z0),(0<n13/\a1.FItems.l.length<s20_14+n13)->Z19_l13 a1 a2 k_rec_65 n13 s20_14 y15_c0=Option.bind (Z19_q13 a2 k_rec_65 (a1.FItems.l.drop s20_14) y15_c0) Kb13:=by
 intro n13;induction n13 with
 | zero=>intro s20_14 y15_c0 hn; exact absurd hn.1 (by omega)
 | succ n13 ih13 =>
  intro s20_14 y15_c0 hn;rw [Z19_l13];by_cases hlt:s20_14<a1.FItems.l.length
  ·obtain⟨h13,hh13⟩:=Qa hlt;rw [Q.drop_of hh13,Z19_q13];refine QT hlt ?_;refine Q.bindPO hh13 fun x21 hx_x21=>?_;refine Q.bindO rfl fun x23=>?_;refine Q.bindO rfl fun x24=>?_;refine Q.condO ?_ ?_
   ·all_goals exact hret _
   all_goals exact ih13 _ _ ⟨by omega,by omega⟩
  rw [dL (by omega),Z19_q13];refine QF hlt ?_;exact hend n13 s20_14 y15_c0
def Z19_qn:Nat->Z0->Z9->Int->Option (Int×Z0)
 | 0,_,_,_=>none
 | n+1,a0,a1,a2=>(Z13_q a0 a2).bind fun x4=>bif (!decide (x4.1=(0:Int))) then(some (x4.1,x4.2)) else(Option.bind (Z19_q13 a2 (Z19_qn n) a1.FItems.l x4.2) fun o13=>match o13 with|Sum.inl y15_c0=>(on (y15_c0) fun y9_c0=>some ((0:Int),y9_c0))|Sum.inr e13=>(some e13))
theorem Z19_qall:∀n:Nat,Z19_n n=Z19_qn n:=by
 intro n;induction n with
 | zero=>exact(by funext a0 a1 a2; first|rfl|(rw [Z19_n,Z19_qn]))
 | succ n ih =>
  funext a0 a1 a2
  refine Qs ?_;rw [Z19_n,Z19_qn];try rw [ih]
  refine Q.bindO (Z13_eq _ _) fun x4=>?_;refine Q.condO ?_ ?_
  ·all_goals rfl
  refine Q.wrapOO fun Kb13 hKb13=>?_;refine Z19_l13_qe  Kb13 ?_ ?_ _ _ _ ⟨Nat.succ_pos _,by omega⟩
  ·intro n13 s20_14 y15_c0;refine Qe (hKb13 _) ?_;try dsimp only
   refine Q.wrapPO fun Kj8 hKj8=>?_;have hj8:∀(y9_c0:Z0),Z19_j8  y9_c0=Kj8 y9_c0:=by
    intro y9_c0;refine Qe (hKj8 _) ?_;unfold Z19_j8;all_goals rfl
   all_goals exact hj8 _
  intro e13;refine Qe (hKb13 _) ?_;try dsimp only
  all_goals rfl
def Z19_q (a0:Z0) (a1:Z9) (a2:Int):Option (Int×Z0):=Z19_qn F0 a0 a1 a2
theorem Z19_eq (a0:Z0) (a1:Z9) (a2:Int):Z19 a0 a1 a2=Z19_q a0 a1 a2:=by
 unfold Z19 Z19_q; rw [(Z19_qall F0)]
def Z18_q (a0:Z9) (a1:Bool) (a2:Z0):Z0:=(Z0.mk a2.Fd a0 a1 a2.Fnodes)
theorem Z18_eq (a0:Z9) (a1:Bool) (a2:Z0):Z18 a0 a1 a2=some (Z18_q a0 a1 a2):=by
 unfold Z18 Z18_q;all_goals rfl
def Z109_q (a0:Bs):Z9:=(Z9.mk (3:Int) (0:Int) a0 true ([]) (Sl.nil:Sl Bs))
theorem Z109_eq (a0:Bs):Z109 a0=some (Z109_q a0):=by
 unfold Z109 Z109_q;all_goals rfl
def Z99_q (a0:Int):Option Bs:=(Z97_q a0).bind fun x3=>some x3
theorem Z99_eq (a0:Int):Z99 a0=Z99_q a0:=by
 unfold Z99 Z99_q;refine Qs ?_;refine Q.bindO (Z97_eq _) fun x3=>?_;all_goals rfl
def Z15_q (a0:Z7) (a1:Z9):Bool:=((a0.FName==a1.FText))
theorem Z15_eq (a0:Z7) (a1:Z9):Z15 a0 a1=some (Z15_q a0 a1):=by
 unfold Z15 Z15_q;all_goals rfl
def Z14_q (a0:Z0) (a1:Bs) (a2:Z9):Option (Z9×Int):=on (fun(s8_4:Bool) (y5_l0:Z9)=>bif (!s8_4) then(some ((Z9.mk (0:Int) (0:Int) ([]:Bs) true ([]) (Sl.nil:Sl Bs)),(23:Int))) else(some (y5_l0,(0:Int)))) fun kj3=>bif ((a1==([73,110,116]:Bs))) then(kj3 (((decide (a2.FKind=(2:Int)))&&(decide ((-2147483648:Int)<=a2.FInt)))&&(decide (a2.FInt<(2147483648:Int)))) a2) else(bif ((a1==([83,116,114,105,110,103]:Bs))) then(kj3 (decide (a2.FKind=(3:Int))) a2) else(bif ((a1==([66,111,111,108,101,97,110]:Bs))) then(kj3 (decide (a2.FKind=(1:Int))) a2) else(bif ((a1==([73,68]:Bs))) then(Option.bind (bif (decide (a2.FKind=(2:Int))) then((Z99_q a2.FInt).bind fun x24=>on (Z109_q x24) fun x25=>some x25) else(some a2)) fun y21_l0=>kj3 (decide (y21_l0.FKind=(3:Int))) y21_l0) else(on (bif ((decide (a2.FKind=(3:Int)))&&(!a0.Fliteral)) then((Z9.mk (4:Int) a2.FInt a2.FText a2.FItems.nl a2.FItems.l a2.FKeys)) else(a2)) fun y27_l0=>on (Z69_q a0.Fd a1) fun x29=>on (bif (decide (y27_l0.FKind=(4:Int))) then Z89_q x29.1.FMembers (fun y0=>Z15_q y0 y27_l0) else false) fun x30=>bif (!((decide (y27_l0.FKind=(4:Int)))&&x30)) then(some ((Z9.mk (0:Int) (0:Int) ([]:Bs) true ([]) (Sl.nil:Sl Bs)),(23:Int))) else(some (y27_l0,(0:Int)))))))
theorem Z14_eq (a0:Z0) (a1:Bs) (a2:Z9):Z14 a0 a1 a2=Z14_q a0 a1 a2:=by
 unfold Z14 Z14_q;refine Qs ?_;refine Q.mixO fun kj3 hkj3=>?_;have hj3:∀(s8_4:Bool) (y5_l0:Z9),Z14_j3  s8_4 y5_l0=Option.bind (kj3 s8_4 y5_l0) some:=by
  intro s8_4 y5_l0;unfold Z14_j3;rw [hkj3];try dsimp only
  refine Q.condO ?_ ?_
  ·all_goals rfl
  all_goals rfl
 refine Q.condO ?_ ?_
 ·all_goals exact hj3 _ _
 refine Q.condO ?_ ?_
 ·all_goals exact hj3 _ _
 refine Q.condO ?_ ?_
 ·all_goals exact hj3 _ _
 refine Q.condO ?_ ?_
 ·refine Q.wrapOO fun Kj20 hKj20=>?_;have hj20:∀(y21_l0:Z9),Z14_j20  y21_l0=Kj20 y21_l0:=by
   intro y21_l0;refine Qe (hKj20 _) ?_;unfold Z14_j20;all_goals exact hj3 _ _
  refine Q.condO ?_ ?_
  ·refine Q.bindO (Z99_eq _) fun x24=>?_;refine Q.bindPO (Z109_eq _) fun x25 hx_x25=>?_;all_goals exact hj20 _
  all_goals exact hj20 _
 refine Q.wrapPO fun Kj26 hKj26=>?_;have hj26:∀(y27_l0:Z9),Z14_j26 a0 a1 y27_l0=Kj26 y27_l0:=by
  intro y27_l0;refine Qe (hKj26 _) ?_;unfold Z14_j26;refine Q.bindPO (Z69_eq _ _) fun x29 hx_x29=>?_;refine Q.guardPO (by simp only [Z15_eq,Z89_eq]) fun x30 hx_x30=>?_;refine Q.condO ?_ ?_
  ·all_goals rfl
  all_goals rfl
 refine Q.condP ?_ ?_
 ·all_goals exact hj26 _
 all_goals exact hj26 _
def coerce_coercer_list_q14 (a1:TRef) (a3:Int) (k_rec_38:Z0->TRef->Z9->Int->Option (Z9×Int×Z0)):List Z9->Z0->Z9->Option (((Z0×Z9)) ⊕ ((Z9×Int×Z0)))
 | [],y16_c0,y18_l1=>some (Sum.inl (y16_c0,y18_l1))
 | h14::r14,y16_c0,y18_l1=>on (h14) fun x24=>(addC a3 (1:Int)).bind fun x26=>(k_rec_38 y16_c0 a1 x24 x26).bind fun x27=>bif (!decide (x27.2.1=(0:Int))) then(some (Sum.inr ((Z9.mk (0:Int) (0:Int) ([]:Bs) true ([]) (Sl.nil:Sl Bs)),x27.2.1,x27.2.2))) else((appC 80 y18_l1.FItems (⟨false,[x27.1]⟩:Sl Z9)).bind fun x32=>coerce_coercer_list_q14 a1 a3 k_rec_38 (r14) x27.2.2 (Z9.mk y18_l1.FKind y18_l1.FInt y18_l1.FText x32.nl x32.l y18_l1.FKeys))
theorem coerce_coercer_list_l14_qe {a1:TRef}{a3:Int}{s10_4:(Sl Z9)}{k_rec_38:Z0->TRef->Z9->Int->Option (Z9×Int×Z0)}  (Kb14:(((Z0×Z9)) ⊕ ((Z9×Int×Z0)))->Option (Z9×Int×Z0)) (hend:∀(n14:Nat) (s26_15:Nat) (y16_c0:Z0) (y17_l0:Z9) (y18_l1:Z9),coerce_coercer_list_j7   y16_c0 y17_l0 y18_l1=Kb14 (Sum.inl (y16_c0,y18_l1))) (hret:∀e:(Z9×Int×Z0),some e=Kb14 (Sum.inr e)):∀(n14:Nat) (s26_15:Nat) (y16_c0:Z0) (y17_l0:Z9) (y18_l1:Z9),(0<n14/\s10_4.l.length<s26_15+n14)->coerce_coercer_list_l14 a1 a3 s10_4 k_rec_38 n14 s26_15 y16_c0 y17_l0 y18_l1=Option.bind (coerce_coercer_list_q14 a1 a3 k_rec_38 (s10_4.l.drop s26_15) y16_c0 y18_l1) Kb14:=by
 intro n14;induction n14 with
 | zero=>intro s26_15 y16_c0 y17_l0 y18_l1 hn; exact absurd hn.1 (by omega)
 | succ n14 ih14 =>
  intro s26_15 y16_c0 y17_l0 y18_l1 hn;rw [coerce_coercer_list_l14];by_cases hlt:s26_15<s10_4.l.length
  ·obtain⟨h14,hh14⟩:=Qa hlt;rw [Q.drop_of hh14,coerce_coercer_list_q14];refine QT hlt ?_;refine Q.bindPO hh14 fun x24 hx_x24=>?_;refine Q.bindO rfl fun x26=>?_;refine Q.bindO rfl fun x27=>?_;refine Q.condO ?_ ?_
   ·all_goals exact hret _
   refine Q.bindO rfl fun x32=>?_;all_goals exact ih14 _ _ _ _ ⟨by omega,by omega⟩
  rw [dL (by omega),coerce_coercer_list_q14];refine QF hlt ?_;exact hend n14 s26_15 y16_c0 y17_l0 y18_l1
def coerce_coercer_object_q66 (a0:Z0) (a1:TDef):List Bs->Unit ⊕ ((Z9×Int×Z0))
 | []=>Sum.inl ()
 | h66::r66=>on (h66) fun x74=>on (Z70_q a1.FInputs x74) fun x76=>bif (!x76.2) then(Sum.inr ((Z9.mk (0:Int) (0:Int) ([]:Bs) true ([]) (Sl.nil:Sl Bs)),(22:Int),a0)) else(coerce_coercer_object_q66 a0 a1 (r66) )
theorem coerce_coercer_object_l66_qe {a0:Z0}{a1:TDef}{a2:Z9}{a3:Int}{k_rec_38:Z0->TRef->Z9->Int->Option (Z9×Int×Z0)}{k_rec_90:Z0->Z6->Int->Option (Z9×Int×Z0)}  (Kb66:(Unit ⊕ ((Z9×Int×Z0)))->Option (Z9×Int×Z0)) (hend:∀(n66:Nat) (s30_67:Nat) (y68_l0:Z9),coerce_coercer_object_j6 a0 a1 a2 a3 k_rec_38 k_rec_90 y68_l0=Kb66 (Sum.inl ())) (hret:∀e:(Z9×Int×Z0),some e=Kb66 (Sum.inr e)):∀(n66:Nat) (s30_67:Nat) (y68_l0:Z9),(0<n66/\a2.FKeys.l.length<s30_67+n66)->coerce_coercer_object_l66 a0 a1 a2 a3 k_rec_38 k_rec_90 n66 s30_67 y68_l0=Kb66 (coerce_coercer_object_q66 a0 a1 (a2.FKeys.l.drop s30_67) ):=by
 intro n66;induction n66 with
 | zero=>intro s30_67 y68_l0 hn; exact absurd hn.1 (by omega)
 | succ n66 ih66 =>
  intro s30_67 y68_l0 hn;rw [coerce_coercer_object_l66];by_cases hlt:s30_67<a2.FKeys.l.length
  ·obtain⟨h66,hh66⟩:=Qa hlt;rw [Q.drop_of hh66,coerce_coercer_object_q66];refine QT hlt ?_;refine Q.bindP hh66 fun x74 hx_x74=>?_;refine Q.bindP (Z70_eq _ _) fun x76 hx_x76=>?_;refine Q.condP ?_ ?_
   ·all_goals exact hret _
   all_goals exact ih66 _ _ ⟨by omega,by omega⟩
  rw [dL (by omega),coerce_coercer_object_q66];refine QF hlt ?_;exact hend n66 s30_67 y68_l0
def coerce_coercer_object_q18 (a1:TDef) (a2:Z9) (a3:Int) (k_rec_38:Z0->TRef->Z9->Int->Option (Z9×Int×Z0)) (k_rec_90:Z0->Z6->Int->Option (Z9×Int×Z0)):List Z6->Nat->Z0->Z9->Option (((Z0×Z9)) ⊕ ((Z9×Int×Z0)))
 | [],s49_19,y20_c0,y22_l1=>some (Sum.inl (y20_c0,y22_l1))
 | h18::r18,s49_19,y20_c0,y22_l1=>on (h18) fun x31=>on ((⟨a1.FInputs.nl,a1.FInputs.l.take s49_19⟩:Sl Z6)) fun x34=>on (Z70_q x34 x31.FName) fun x35=>on (fun(y27_c0:Z0) (y29_l1:Z9)=>coerce_coercer_object_q18 a1 a2 a3 k_rec_38 k_rec_90 (r18) (s49_19+1) y27_c0 y29_l1) fun kj26=>bif x35.2 then(kj26 y20_c0 y22_l1) else((Z108_q a2 x31.FName).bind fun x39=>guardO (x39.2) (Z16_q y20_c0 x39.1) false fun x53=>on (fun(s22_43:Int) (y44_c0:Z0) (y45_l2:Z9)=>bif (!decide (s22_43=(0:Int))) then(some (Sum.inr ((Z9.mk (0:Int) (0:Int) ([]:Bs) true ([]) (Sl.nil:Sl Bs)),s22_43,y44_c0))) else((appC 16 y22_l1.FKeys (⟨false,[x31.FName]⟩:Sl Bs)).bind fun x50=>(appC 80 y22_l1.FItems (⟨false,[y45_l2]⟩:Sl Z9)).bind fun x51=>kj26 y44_c0 (Z9.mk y22_l1.FKind y22_l1.FInt y22_l1.FText x51.nl x51.l x50))) fun kj42=>bif (x39.2&&(!x53)) then((addC a3 (1:Int)).bind fun x55=>(k_rec_38 y20_c0 x31.FType x39.1 x55).bind fun x56=>kj42 x56.2.1 x56.2.2 x56.1) else(bif x31.FHas then((addC a3 (1:Int)).bind fun x59=>(k_rec_90 y20_c0 x31 x59).bind fun x60=>kj42 x60.2.1 x60.2.2 x60.1) else(on (Z104_q x31.FType) fun x62=>bif x62 then(kj42 (22:Int) y20_c0 Z9.zero) else(kj26 y20_c0 y22_l1))))
theorem coerce_coercer_object_l18_qe {a1:TDef}{a2:Z9}{a3:Int}{k_rec_38:Z0->TRef->Z9->Int->Option (Z9×Int×Z0)}{k_rec_90:Z0->Z6->Int->Option (Z9×Int×Z0)}  (Kb18:(((Z0×Z9)) ⊕ ((Z9×Int×Z0)))->Option (Z9×Int×Z0)) (hend:∀(n18:Nat) (s49_19:Nat) (y20_c0:Z0) (y21_l0:Z9) (y22_l1:Z9),coerce_coercer_object_j11   y20_c0 y21_l0 y22_l1=Kb18 (Sum.inl (y20_c0,y22_l1))) (hret:∀e:(Z9×Int×Z0),some e=Kb18 (Sum.inr e)):∀(n18:Nat) (s49_19:Nat) (y20_c0:Z0) (y21_l0:Z9) (y22_l1:Z9),(0<n18/\a1.FInputs.l.length<s49_19+n18)->coerce_coercer_object_l18 a1 a2 a3 k_rec_38 k_rec_90 n18 s49_19 y20_c0 y21_l0 y22_l1=Option.bind (coerce_coercer_object_q18 a1 a2 a3 k_rec_38 k_rec_90 (a1.FInputs.l.drop s49_19) s49_19 y20_c0 y22_l1) Kb18:=by
 intro n18;induction n18 with
 | zero=>intro s49_19 y20_c0 y21_l0 y22_l1 hn; exact absurd hn.1 (by omega)
 | succ n18 ih18 =>
  intro s49_19 y20_c0 y21_l0 y22_l1 hn;rw [coerce_coercer_object_l18];by_cases hlt:s49_19<a1.FInputs.l.length
  ·obtain⟨h18,hh18⟩:=Qa hlt;rw [Q.drop_of hh18,coerce_coercer_object_q18];refine QT hlt ?_;refine Q.bindPO hh18 fun x31 hx_x31=>?_;refine Q.bindPO (Q.partC_take (by omega)) fun x34 hx_x34=>?_;refine Q.bindPO (Z70_eq _ _) fun x35 hx_x35=>?_;refine Q.mixO fun kj26 hkj26=>?_;have hj26:∀(y27_c0:Z0) (y28_l0:Z9) (y29_l1:Z9),coerce_coercer_object_j26 s49_19 (coerce_coercer_object_l18 a1 a2 a3 k_rec_38 k_rec_90 n18) y27_c0 y28_l0 y29_l1=Option.bind (kj26 y27_c0 y29_l1) Kb18:=by
    intro y27_c0 y28_l0 y29_l1;unfold coerce_coercer_object_j26;rw [hkj26];try dsimp only
    all_goals exact ih18 _ _ _ _ ⟨by omega,by omega⟩
   refine Q.condO ?_ ?_
   ·all_goals exact hj26 _ _ _
   refine Q.bindO (Z108_eq _ _) fun x39=>?_;refine Q.guardOO (Z16_eq _ _) fun x53=>?_;refine Q.mixO fun kj42 hkj42=>?_;have hj42:∀(s22_43:Int) (y44_c0:Z0) (y45_l2:Z9),coerce_coercer_object_j42 s49_19 y21_l0 y22_l1 x31 (coerce_coercer_object_l18 a1 a2 a3 k_rec_38 k_rec_90 n18) s22_43 y44_c0 y45_l2=Option.bind (kj42 s22_43 y44_c0 y45_l2) Kb18:=by
    intro s22_43 y44_c0 y45_l2;unfold coerce_coercer_object_j42;rw [hkj42];try dsimp only
    refine Q.condO ?_ ?_
    ·all_goals exact hret _
    refine Q.bindO rfl fun x50=>?_;refine Q.bindO rfl fun x51=>?_;all_goals exact hj26 _ _ _
   refine Q.condO ?_ ?_
   ·refine Q.bindO rfl fun x55=>?_;refine Q.bindO rfl fun x56=>?_;all_goals exact hj42 _ _ _
   refine Q.condO ?_ ?_
   ·refine Q.bindO rfl fun x59=>?_;refine Q.bindO rfl fun x60=>?_;all_goals exact hj42 _ _ _
   refine Q.bindPO (Z104_eq _) fun x62 hx_x62=>?_;refine Q.condO ?_ ?_
   ·all_goals exact hj42 _ _ _
   all_goals exact hj26 _ _ _
  rw [dL (by omega),coerce_coercer_object_q18];refine QF hlt ?_;exact hend n18 s49_19 y20_c0 y21_l0 y22_l1
mutual
def coerce_coercer_at_qn:Nat->Z0->TRef->Z9->Int->Option (Z9×Int×Z0)
 | 0,_,_,_,_=>none
 | n+1,a0,a1,a2,a3=>on (Z71_q a0.Fd a1.FName) fun x4=>bif (!x4) then(some ((Z9.mk (0:Int) (0:Int) ([]:Bs) true ([]) (Sl.nil:Sl Bs)),(10:Int),a0)) else(on (fun(y8_c0:Z0) (y9_l0:Z9)=>(Z13_q y8_c0 a3).bind fun x13=>bif (!decide (x13.1=(0:Int))) then(some ((Z9.mk (0:Int) (0:Int) ([]:Bs) true ([]) (Sl.nil:Sl Bs)),x13.1,x13.2)) else(bif (decide (y9_l0.FKind=(0:Int))) then(on (Z104_q a1) fun x22=>bif x22 then(some ((Z9.mk (0:Int) (0:Int) ([]:Bs) true ([]) (Sl.nil:Sl Bs)),(23:Int),x13.2)) else(some ((Z9.mk (0:Int) (0:Int) ([]:Bs) true ([]) (Sl.nil:Sl Bs)),(0:Int),x13.2))) else((Z102_q a1).bind fun x28=>bif x28.2 then(((coerce_coercer_list_qn n) x13.2 x28.1 y9_l0 a3).bind fun x32=>some (x32.1,x32.2.1,x32.2.2)) else(on (Z69_q x13.2.Fd a1.FName) fun x35=>on (bif x35.2 then Z74_q a1.FName else false) fun x37=>bif ((x35.2&&(!x37))&&(decide (x35.1.FKind=(5:Int)))) then(((coerce_coercer_object_qn n) x13.2 x35.1 y9_l0 a3).bind fun x40=>some (x40.1,x40.2.1,x40.2.2)) else((Z14_q x13.2 a1.FName y9_l0).bind fun x42=>some (x42.1,x42.2,x13.2)))))) fun kj7=>bif ((decide (a2.FKind=(7:Int)))&&a0.Fliteral) then((Z108_q a0.Fvars a2.FText).bind fun x46=>bif (!decide (x46.1.FKind=(0:Int))) then((Z19_q a0 x46.1 a3).bind fun x50=>bif (!decide (x50.1=(0:Int))) then(some ((Z9.mk (0:Int) (0:Int) ([]:Bs) true ([]) (Sl.nil:Sl Bs)),x50.1,x50.2)) else(some (x46.1,(0:Int),x50.2))) else(kj7 a0 x46.1)) else(kj7 a0 a2))
def coerce_coercer_list_qn:Nat->Z0->TRef->Z9->Int->Option (Z9×Int×Z0)
 | 0,_,_,_,_=>none
 | n+1,a0,a1,a2,a3=>on (bif (!decide (a2.FKind=(5:Int))) then((⟨false,[a2]⟩:Sl Z9)) else(a2.FItems)) fun s10_4=>Option.bind (coerce_coercer_list_q14 a1 a3 (coerce_coercer_at_qn n) s10_4.l a0 (Z9.mk (5:Int) (0:Int) ([]:Bs) true ([]) (Sl.nil:Sl Bs))) fun o14=>match o14 with|Sum.inl z14=>(on ((z14.1,z14.2)) fun z7=>some (z7.2,(0:Int),z7.1))|Sum.inr e14=>(some e14)
def coerce_coercer_object_qn:Nat->Z0->TDef->Z9->Int->Option (Z9×Int×Z0)
 | 0,_,_,_,_=>none
 | n+1,a0,a1,a2,a3=>bif (!decide (a2.FKind=(6:Int))) then(some ((Z9.mk (0:Int) (0:Int) ([]:Bs) true ([]) (Sl.nil:Sl Bs)),(23:Int),a0)) else(on (coerce_coercer_object_q66 a0 a1 a2.FKeys.l ) fun o66=>match o66 with|Sum.inl _=>(on (()) fun _=>Option.bind (coerce_coercer_object_q18 a1 a2 a3 (coerce_coercer_at_qn n) (Z17_qn n) a1.FInputs.l 0 a0 (Z9.mk (6:Int) (0:Int) ([]:Bs) true ([]) (Sl.nil:Sl Bs))) fun o18=>match o18 with|Sum.inl z18=>(on ((z18.1,z18.2)) fun z11=>some (z11.2,(0:Int),z11.1))|Sum.inr e18=>(some e18))|Sum.inr e66=>(some e66))
def Z17_qn:Nat->Z0->Z6->Int->Option (Z9×Int×Z0)
 | 0,_,_,_=>none
 | n+1,a0,a1,a2=>((coerce_coercer_at_qn n) (Z0.mk a0.Fd (Z9.mk (0:Int) (0:Int) ([]:Bs) true ([]) (Sl.nil:Sl Bs)) true a0.Fnodes) a1.FType a1.FDefault a2).bind fun x5=>on (Z18_q a0.Fvars a0.Fliteral x5.2.2) fun x6=>some (x5.1,x5.2.1,x6)
end
theorem coerce_coercer_at_qall:∀n:Nat,coerce_coercer_at_n n=coerce_coercer_at_qn n/\coerce_coercer_list_n n=coerce_coercer_list_qn n/\coerce_coercer_object_n n=coerce_coercer_object_qn n/\Z17_n n=Z17_qn n:=by
 intro n;induction n with
 | zero=>exact⟨(by funext a0 a1 a2 a3; first|rfl|(rw [coerce_coercer_at_n,coerce_coercer_at_qn])),(by funext a0 a1 a2 a3; first|rfl|(rw [coerce_coercer_list_n,coerce_coercer_list_qn])),(by funext a0 a1 a2 a3; first|rfl|(rw [coerce_coercer_object_n,coerce_coercer_object_qn])),(by funext a0 a1 a2; first|rfl|(rw [Z17_n,Z17_qn]))⟩
 | succ n ih =>
  refine⟨?_, ?_, ?_, ?_⟩
  ·funext a0 a1 a2 a3
   refine Qs ?_;rw [coerce_coercer_at_n,coerce_coercer_at_qn];try rw [ih.1]
   try rw [ih.2.1]
   try rw [ih.2.2.1]
   try rw [ih.2.2.2]
   refine Q.bindPO (Z71_eq _ _) fun x4 hx_x4=>?_;refine Q.condO ?_ ?_
   ·all_goals rfl
   refine Q.mixO fun kj7 hkj7=>?_;have hj7:∀(y8_c0:Z0) (y9_l0:Z9) (y10_l1:Z9),coerce_coercer_at_j7 a1 a3 (coerce_coercer_list_qn n) (coerce_coercer_object_qn n) y8_c0 y9_l0 y10_l1=Option.bind (kj7 y8_c0 y9_l0) some:=by
    intro y8_c0 y9_l0 y10_l1;unfold coerce_coercer_at_j7;rw [hkj7];try dsimp only
    refine Q.bindO (Z13_eq _ _) fun x13=>?_;refine Q.condO ?_ ?_
    ·all_goals rfl
    refine Q.condO ?_ ?_
    ·refine Q.bindPO (Z104_eq _) fun x22 hx_x22=>?_;refine Q.condO ?_ ?_
     ·all_goals rfl
     all_goals rfl
    refine Q.bindO (Z102_eq _) fun x28=>?_;refine Q.condO ?_ ?_
    ·refine Q.bindO rfl fun x32=>?_;all_goals rfl
    refine Q.bindPO (Z69_eq _ _) fun x35 hx_x35=>?_;refine Q.guardPO (Z74_eq _) fun x37 hx_x37=>?_;refine Q.condO ?_ ?_
    ·refine Q.bindO rfl fun x40=>?_;all_goals rfl
    refine Q.bindO (Z14_eq _ _ _) fun x42=>?_;all_goals rfl
   refine Q.condO ?_ ?_
   ·refine Q.bindO (Z108_eq _ _) fun x46=>?_;refine Q.condO ?_ ?_
    ·refine Q.bindO (Z19_eq _ _ _) fun x50=>?_;refine Q.condO ?_ ?_
     ·all_goals rfl
     all_goals rfl
    all_goals exact hj7 _ _ _
   all_goals exact hj7 _ _ _
  ·funext a0 a1 a2 a3
   refine Qs ?_;rw [coerce_coercer_list_n,coerce_coercer_list_qn];try rw [ih.1]
   try rw [ih.2.1]
   try rw [ih.2.2.1]
   try rw [ih.2.2.2]
   refine Q.wrapPO fun Kj3 hKj3=>?_;have hj3:∀(s10_4:(Sl Z9)),coerce_coercer_list_j3 a0 a1 a3 (coerce_coercer_at_qn n) s10_4=Kj3 s10_4:=by
    intro s10_4;refine Qe (hKj3 _) ?_;unfold coerce_coercer_list_j3;refine Q.wrapOO fun Kb14 hKb14=>?_;refine coerce_coercer_list_l14_qe  Kb14 ?_ ?_ _ _ _ _ _ ⟨Nat.succ_pos _,by omega⟩
    ·intro n14 s26_15 y16_c0 y17_l0 y18_l1;refine Qe (hKb14 _) ?_;try dsimp only
     refine Q.wrapPO fun Kj7 hKj7=>?_;have hj7:∀(y8_c0:Z0) (y9_l0:Z9) (y10_l1:Z9),coerce_coercer_list_j7  y8_c0 y9_l0 y10_l1=Kj7 (y8_c0,y10_l1):=by
      intro y8_c0 y9_l0 y10_l1;refine Qe (hKj7 _) ?_;try dsimp only
      unfold coerce_coercer_list_j7;all_goals rfl
     all_goals exact hj7 _ _ _
    intro e14;refine Qe (hKb14 _) ?_;try dsimp only
    all_goals rfl
   refine Q.condP ?_ ?_
   ·all_goals exact hj3 _
   all_goals exact hj3 _
  ·funext a0 a1 a2 a3
   refine Qs ?_;rw [coerce_coercer_object_n,coerce_coercer_object_qn];try rw [ih.1]
   try rw [ih.2.1]
   try rw [ih.2.2.1]
   try rw [ih.2.2.2]
   refine Q.condO ?_ ?_
   ·all_goals rfl
   refine Q.wrapPO fun Kb66 hKb66=>?_;refine coerce_coercer_object_l66_qe  Kb66 ?_ ?_ _ _ _ ⟨Nat.succ_pos _,by omega⟩
   ·intro n66 s30_67 y68_l0;refine Qe (hKb66 _) ?_;try dsimp only
    refine Q.wrapPO fun Kj6 hKj6=>?_;have hj6:∀(y7_l0:Z9),coerce_coercer_object_j6 a0 a1 a2 a3 (coerce_coercer_at_qn n) (Z17_qn n) y7_l0=Kj6 ():=by
     intro y7_l0;refine Qe (hKj6 _) ?_;unfold coerce_coercer_object_j6;refine Q.wrapOO fun Kb18 hKb18=>?_;refine coerce_coercer_object_l18_qe  Kb18 ?_ ?_ _ _ _ _ _ ⟨Nat.succ_pos _,by omega⟩
     ·intro n18 s49_19 y20_c0 y21_l0 y22_l1;refine Qe (hKb18 _) ?_;try dsimp only
      refine Q.wrapPO fun Kj11 hKj11=>?_;have hj11:∀(y12_c0:Z0) (y13_l0:Z9) (y14_l1:Z9),coerce_coercer_object_j11  y12_c0 y13_l0 y14_l1=Kj11 (y12_c0,y14_l1):=by
       intro y12_c0 y13_l0 y14_l1;refine Qe (hKj11 _) ?_;try dsimp only
       unfold coerce_coercer_object_j11;all_goals rfl
      all_goals exact hj11 _ _ _
     intro e18;refine Qe (hKb18 _) ?_;try dsimp only
     all_goals rfl
    all_goals exact hj6 _
   intro e66;refine Qe (hKb66 _) ?_;try dsimp only
   all_goals rfl
  funext a0 a1 a2
  refine Qs ?_;rw [Z17_n,Z17_qn];try rw [ih.1]
  try rw [ih.2.1]
  try rw [ih.2.2.1]
  try rw [ih.2.2.2]
  refine Q.bindO rfl fun x5=>?_;refine Q.bindPO (Z18_eq _ _ _) fun x6 hx_x6=>?_;all_goals rfl
def coerce_coercer_at_q (a0:Z0) (a1:TRef) (a2:Z9) (a3:Int):Option (Z9×Int×Z0):=coerce_coercer_at_qn F0 a0 a1 a2 a3
theorem coerce_coercer_at_eq (a0:Z0) (a1:TRef) (a2:Z9) (a3:Int):coerce_coercer_at a0 a1 a2 a3=coerce_coercer_at_q a0 a1 a2 a3:=by
 unfold coerce_coercer_at coerce_coercer_at_q; rw [(coerce_coercer_at_qall F0).1]
def Z12_q (a0:TDoc) (a1:TRef) (a2:Z9) (a3:Z9):Option (Z9×Int):=(Z16_q (Z0.mk a0 a3 true (0:Int)) a2).bind fun x6=>bif x6 then(on (Z71_q a0 a1.FName) fun x10=>bif (!x10) then(some ((Z9.mk (0:Int) (0:Int) ([]:Bs) true ([]) (Sl.nil:Sl Bs)),(10:Int))) else(some ((Z9.mk (0:Int) (0:Int) ([]:Bs) true ([]) (Sl.nil:Sl Bs)),(8:Int)))) else((coerce_coercer_at_q (Z0.mk a0 a3 true (0:Int)) a1 a2 (1:Int)).bind fun x15=>(Z20_q x15.1 x15.2.1).bind fun x16=>some (x16.1,x16.2))
theorem Z12_eq (a0:TDoc) (a1:TRef) (a2:Z9) (a3:Z9):Z12 a0 a1 a2 a3=Z12_q a0 a1 a2 a3:=by
 unfold Z12 Z12_q;refine Qs ?_;refine Q.bindO (Z16_eq _ _) fun x6=>?_;refine Q.condO ?_ ?_
 ·refine Q.bindPO (Z71_eq _ _) fun x10 hx_x10=>?_;refine Q.condO ?_ ?_
  ·all_goals rfl
  all_goals rfl
 refine Q.bindO (coerce_coercer_at_eq _ _ _ _) fun x15=>?_;refine Q.bindO (Z20_eq _ _) fun x16=>?_;all_goals rfl
def Z11_q (a0:Z6) (a1:Bs) (a2:TDoc) (a3:(Sl Z3)):Option (Sl Z3):=bif (!a0.FHas) then(some a3) else((Z12_q a2 a0.FType a0.FDefault (Z9.mk (0:Int) (0:Int) ([]:Bs) true ([]) (Sl.nil:Sl Bs))).bind fun x6=>bif (!decide (x6.2=(0:Int))) then((appC 24 a3 (⟨false,[(Z3.mk (23:Int) a1)]⟩:Sl Z3)).bind fun x9=>some x9) else(some a3))
theorem Z11_eq (a0:Z6) (a1:Bs) (a2:TDoc) (a3:(Sl Z3)):Z11 a0 a1 a2 a3=Z11_q a0 a1 a2 a3:=by
 unfold Z11 Z11_q;refine Qs ?_;refine Q.condO ?_ ?_
 ·all_goals rfl
 refine Q.bindO (Z12_eq _ _ _ _) fun x6=>?_;refine Q.condO ?_ ?_
 ·refine Q.bindO rfl fun x9=>?_;all_goals rfl
 all_goals rfl
def Z10_q51 (a0:TDoc) (x20:TDef) (x48:Z4):List Z6->(Sl Z3)->Option ((Sl Z3))
 | [],y53_id3_3=>some y53_id3_3
 | h51::r51,y53_id3_3=>on (h51) fun x59=>(catC x20.FName ([46]:Bs)).bind fun x60=>(catC x60 x48.FName).bind fun x61=>(catC x61 ([40]:Bs)).bind fun x62=>(catC x62 x59.FName).bind fun x63=>(catC x63 ([41]:Bs)).bind fun x64=>(Z11_q x59 x64 a0 y53_id3_3).bind fun x65=>Z10_q51 a0 x20 x48 (r51) x65
theorem Z10_l51_qe {a0:TDoc}{x20:TDef}{s24_40:Nat}{x48:Z4}{k_next_39:Nat->(Sl Z3)->Option (Sl Z3)}  (Kb51:((Sl Z3))->Option (Sl Z3)) (hend:∀(n51:Nat) (s31_52:Nat) (y53_id3_3:(Sl Z3)),Z10_j45 s24_40 k_next_39 y53_id3_3=Kb51 y53_id3_3):∀(n51:Nat) (s31_52:Nat) (y53_id3_3:(Sl Z3)),(0<n51/\x48.FArgs.l.length<s31_52+n51)->Z10_l51 a0 x20 s24_40 x48 k_next_39 n51 s31_52 y53_id3_3=Option.bind (Z10_q51 a0 x20 x48 (x48.FArgs.l.drop s31_52) y53_id3_3) Kb51:=by
 intro n51;induction n51 with
 | zero=>intro s31_52 y53_id3_3 hn; exact absurd hn.1 (by omega)
 | succ n51 ih51 =>
  intro s31_52 y53_id3_3 hn;rw [Z10_l51];by_cases hlt:s31_52<x48.FArgs.l.length
  ·obtain⟨h51,hh51⟩:=Qa hlt;rw [Q.drop_of hh51,Z10_q51];refine QT hlt ?_;refine Q.bindPO hh51 fun x59 hx_x59=>?_;refine Q.bindO rfl fun x60=>?_;refine Q.bindO rfl fun x61=>?_;refine Q.bindO rfl fun x62=>?_;refine Q.bindO rfl fun x63=>?_;refine Q.bindO rfl fun x64=>?_;refine Q.bindO (Z11_eq _ _ _ _) fun x65=>?_;all_goals exact ih51 _ _ ⟨by omega,by omega⟩
  rw [dL (by omega),Z10_q51];refine QF hlt ?_;exact hend n51 s31_52 y53_id3_3
def Z10_q39 (a0:TDoc) (x20:TDef):List Z4->(Sl Z3)->Option ((Sl Z3))
 | [],y41_id3_3=>some y41_id3_3
 | h39::r39,y41_id3_3=>on (h39) fun x48=>Option.bind (Z10_q51 a0 x20 x48 x48.FArgs.l y41_id3_3) fun y53_id3_3=>on (y53_id3_3) fun y46_id3_3=>Z10_q39 a0 x20 (r39) y46_id3_3
theorem Z10_l39_qe {a0:TDoc}{s17_12:Nat}{x20:TDef}{k_next_11:Nat->(Sl Z3)->Option (Sl Z3)}  (Kb39:((Sl Z3))->Option (Sl Z3)) (hend:∀(n39:Nat) (s24_40:Nat) (y41_id3_3:(Sl Z3)),Z10_j21 a0 s17_12 x20 k_next_11 y41_id3_3=Kb39 y41_id3_3):∀(n39:Nat) (s24_40:Nat) (y41_id3_3:(Sl Z3)),(0<n39/\x20.FFields.l.length<s24_40+n39)->Z10_l39 a0 s17_12 x20 k_next_11 n39 s24_40 y41_id3_3=Option.bind (Z10_q39 a0 x20 (x20.FFields.l.drop s24_40) y41_id3_3) Kb39:=by
 intro n39;induction n39 with
 | zero=>intro s24_40 y41_id3_3 hn; exact absurd hn.1 (by omega)
 | succ n39 ih39 =>
  intro s24_40 y41_id3_3 hn;rw [Z10_l39];by_cases hlt:s24_40<x20.FFields.l.length
  ·obtain⟨h39,hh39⟩:=Qa hlt;rw [Q.drop_of hh39,Z10_q39];refine QT hlt ?_;refine Q.bindPO hh39 fun x48 hx_x48=>?_;refine Q.wrapOO fun Kb51 hKb51=>?_;refine Z10_l51_qe  Kb51 ?_ _ _ _ ⟨Nat.succ_pos _,by omega⟩;intro n51 s31_52 y53_id3_3;refine Qe (hKb51 _) ?_;refine Q.wrapPO fun Kj45 hKj45=>?_;have hj45:∀(y46_id3_3:(Sl Z3)),Z10_j45 s24_40 (Z10_l39 a0 s17_12 x20 k_next_11 n39) y46_id3_3=Kj45 y46_id3_3:=by
    intro y46_id3_3;refine Qe (hKj45 _) ?_;unfold Z10_j45;all_goals exact ih39 _ _ ⟨by omega,by omega⟩
   all_goals exact hj45 _
  rw [dL (by omega),Z10_q39];refine QF hlt ?_;exact hend n39 s24_40 y41_id3_3
def Z10_q25 (a0:TDoc) (x20:TDef):List Z6->(Sl Z3)->Option ((Sl Z3))
 | [],y27_id3_3=>some y27_id3_3
 | h25::r25,y27_id3_3=>on (h25) fun x33=>(catC x20.FName ([46]:Bs)).bind fun x34=>(catC x34 x33.FName).bind fun x35=>(Z11_q x33 x35 a0 y27_id3_3).bind fun x36=>Z10_q25 a0 x20 (r25) x36
theorem Z10_l25_qe {a0:TDoc}{s17_12:Nat}{x20:TDef}{k_next_11:Nat->(Sl Z3)->Option (Sl Z3)}  (Kb25:((Sl Z3))->Option (Sl Z3)) (hend:∀(n25:Nat) (s54_26:Nat) (y27_id3_3:(Sl Z3)),Z10_j17 s17_12 k_next_11 y27_id3_3=Kb25 y27_id3_3):∀(n25:Nat) (s54_26:Nat) (y27_id3_3:(Sl Z3)),(0<n25/\x20.FInputs.l.length<s54_26+n25)->Z10_l25 a0 s17_12 x20 k_next_11 n25 s54_26 y27_id3_3=Option.bind (Z10_q25 a0 x20 (x20.FInputs.l.drop s54_26) y27_id3_3) Kb25:=by
 intro n25;induction n25 with
 | zero=>intro s54_26 y27_id3_3 hn; exact absurd hn.1 (by omega)
 | succ n25 ih25 =>
  intro s54_26 y27_id3_3 hn;rw [Z10_l25];by_cases hlt:s54_26<x20.FInputs.l.length
  ·obtain⟨h25,hh25⟩:=Qa hlt;rw [Q.drop_of hh25,Z10_q25];refine QT hlt ?_;refine Q.bindPO hh25 fun x33 hx_x33=>?_;refine Q.bindO rfl fun x34=>?_;refine Q.bindO rfl fun x35=>?_;refine Q.bindO (Z11_eq _ _ _ _) fun x36=>?_;all_goals exact ih25 _ _ ⟨by omega,by omega⟩
  rw [dL (by omega),Z10_q25];refine QF hlt ?_;exact hend n25 s54_26 y27_id3_3
def Z10_q11 (a0:TDoc):List TDef->(Sl Z3)->Option ((Sl Z3))
 | [],y13_id3_3=>some y13_id3_3
 | h11::r11,y13_id3_3=>on (h11) fun x20=>Option.bind (Z10_q39 a0 x20 x20.FFields.l y13_id3_3) fun y41_id3_3=>on (y41_id3_3) fun y22_id3_3=>Option.bind (Z10_q25 a0 x20 x20.FInputs.l y22_id3_3) fun y27_id3_3=>on (y27_id3_3) fun y18_id3_3=>Z10_q11 a0 (r11) y18_id3_3
theorem Z10_l11_qe {a0:TDoc}  (Kb11:((Sl Z3))->Option (Sl Z3)) (hend:∀(n11:Nat) (s17_12:Nat) (y13_id3_3:(Sl Z3)),Z10_j6   y13_id3_3=Kb11 y13_id3_3):∀(n11:Nat) (s17_12:Nat) (y13_id3_3:(Sl Z3)),(0<n11/\a0.FDefs.l.length<s17_12+n11)->Z10_l11 a0 n11 s17_12 y13_id3_3=Option.bind (Z10_q11 a0 (a0.FDefs.l.drop s17_12) y13_id3_3) Kb11:=by
 intro n11;induction n11 with
 | zero=>intro s17_12 y13_id3_3 hn; exact absurd hn.1 (by omega)
 | succ n11 ih11 =>
  intro s17_12 y13_id3_3 hn;rw [Z10_l11];by_cases hlt:s17_12<a0.FDefs.l.length
  ·obtain⟨h11,hh11⟩:=Qa hlt;rw [Q.drop_of hh11,Z10_q11];refine QT hlt ?_;refine Q.bindPO hh11 fun x20 hx_x20=>?_;refine Q.wrapOO fun Kb39 hKb39=>?_;refine Z10_l39_qe  Kb39 ?_ _ _ _ ⟨Nat.succ_pos _,by omega⟩;intro n39 s24_40 y41_id3_3;refine Qe (hKb39 _) ?_;refine Q.wrapPO fun Kj21 hKj21=>?_;have hj21:∀(y22_id3_3:(Sl Z3)),Z10_j21 a0 s17_12 x20 (Z10_l11 a0 n11) y22_id3_3=Kj21 y22_id3_3:=by
    intro y22_id3_3;refine Qe (hKj21 _) ?_;unfold Z10_j21;refine Q.wrapOO fun Kb25 hKb25=>?_;refine Z10_l25_qe  Kb25 ?_ _ _ _ ⟨Nat.succ_pos _,by omega⟩;intro n25 s54_26 y27_id3_3;refine Qe (hKb25 _) ?_;refine Q.wrapPO fun Kj17 hKj17=>?_;have hj17:∀(y18_id3_3:(Sl Z3)),Z10_j17 s17_12 (Z10_l11 a0 n11) y18_id3_3=Kj17 y18_id3_3:=by
     intro y18_id3_3;refine Qe (hKj17 _) ?_;unfold Z10_j17;all_goals exact ih11 _ _ ⟨by omega,by omega⟩
    all_goals exact hj17 _
   all_goals exact hj21 _
  rw [dL (by omega),Z10_q11];refine QF hlt ?_;exact hend n11 s17_12 y13_id3_3
def Z10_q (a0:TDoc):Option (Sl Z3):=Option.bind (Z10_q11 a0 a0.FDefs.l (Sl.nil:Sl Z3)) fun y13_id3_3=>on (y13_id3_3) fun y7_id3_3=>some y7_id3_3
theorem Z10_eq (a0:TDoc):Z10 a0=Z10_q a0:=by
 unfold Z10 Z10_q;refine Qs ?_;refine Q.wrapOO fun Kb11 hKb11=>?_;refine Z10_l11_qe  Kb11 ?_ _ _ _ ⟨Nat.succ_pos _,by omega⟩;intro n11 s17_12 y13_id3_3;refine Qe (hKb11 _) ?_;refine Q.wrapPO fun Kj6 hKj6=>?_;have hj6:∀(y7_id3_3:(Sl Z3)),Z10_j6  y7_id3_3=Kj6 y7_id3_3:=by
  intro y7_id3_3;refine Qe (hKj6 _) ?_;unfold Z10_j6;all_goals rfl
 all_goals exact hj6 _
def Z36_q (a0:TDoc) (a1:TRef) (a2:Z9):Option Bool:=(Z65_q a0).bind fun x4=>guardO (!x4) (Z56_q a0) false fun x5=>guardO (!(x4||(!x5))) (Z52_q a1) false fun x6=>guardO (!((x4||(!x5))||(!x6))) (Z45_q a2) (0:Int) fun x7=>guardO (!(((x4||(!x5))||(!x6))||(decide ((100:Int)<x7)))) (Z44_q a2) false fun x8=>guardO (!((((x4||(!x5))||(!x6))||(decide ((100:Int)<x7)))||(!x8))) (Z37_q a2) false fun x9=>bif (((((x4||(!x5))||(!x6))||(decide ((100:Int)<x7)))||(!x8))||(!x9)) then((Z38).bind fun x12=>some x12) else((Z66_q a0 false).bind fun x15=>guardO (!(decide ((0:Int)<((x15.l.length:Nat):Int)))) (Z10_q a0) (Sl.nil:Sl Z3) fun x17=>on (bif !((decide ((0:Int)<((x15.l.length:Nat):Int)))||(decide ((0:Int)<((x17.l.length:Nat):Int)))) then Z71_q a0 a1.FName else false) fun x18=>bif ((((decide ((0:Int)<((x15.l.length:Nat):Int)))||(decide ((0:Int)<((x17.l.length:Nat):Int))))||(!x18))||(decide ((64:Int)<=((a0.FDefs.l.length:Nat):Int)))) then((Z38).bind fun x21=>some x21) else(on (Z69_q a0 ([81,117,101,114,121]:Bs)) fun x23=>bif x23.2 then((Z38).bind fun x28=>some x28) else((appK 144 (⟨false,[]⟩:Sl TDef) a0.FDefs).bind fun x30=>on (Z50_q ([73,110,116]:Bs)) fun x31=>(appC 144 x30 (⟨false,[(TDef.mk (1:Int) ([81,117,101,114,121]:Bs) (Sl.nil:Sl Bs) (Sl.nil:Sl TDir) (⟨false,[(Z4.mk ([102]:Bs) (⟨false,[(Z6.mk ([120]:Bs) a1 false Z9.zero (Sl.nil:Sl TDir))]⟩:Sl Z6) x31 (Sl.nil:Sl TDir))]⟩:Sl Z4) (Sl.nil:Sl Z7) (Sl.nil:Sl Z6))]⟩:Sl TDef)).bind fun x32=>(Z21_q (TDoc.mk x32) (Z8.mk (⟨false,[(TOp.mk (1:Int) ([]:Bs) (Sl.nil:Sl TVar) (⟨false,[(TSel.mk (1:Int) ([]:Bs) ([102]:Bs) ([]:Bs) (⟨false,[(TArg.mk ([120]:Bs) a2)]⟩:Sl TArg) (Sl.nil:Sl TDir) true ([]))]⟩:Sl TSel))]⟩:Sl TOp) (Sl.nil:Sl Z5))).bind fun x35=>(Z12_q (TDoc.mk x32) a1 a2 (Z9.mk (0:Int) (0:Int) ([]:Bs) true ([]) (Sl.nil:Sl Bs))).bind fun x37=>bif ((decide (x37.2=(4:Int)))||(decide (x37.2=(5:Int)))) then((Z38).bind fun x42=>some x42) else(bif (decide (x37.2=(0:Int))) then(guardO ((decide (((x35.l.length:Nat):Int)=(0:Int)))) (Z38) false fun x48=>some ((decide (((x35.l.length:Nat):Int)=(0:Int)))&&x48)) else(guardO ((decide (((x35.l.length:Nat):Int)=(1:Int)))) (x35.l[0]?) Z3.zero fun x51=>guardO (((decide (((x35.l.length:Nat):Int)=(1:Int)))&&(decide (x51.FErr=(23:Int))))) (x35.l[0]?) Z3.zero fun x52=>guardO ((((decide (((x35.l.length:Nat):Int)=(1:Int)))&&(decide (x51.FErr=(23:Int))))&&((x52.FAt==([47,102]:Bs))))) (Z38) false fun x53=>some ((((decide (((x35.l.length:Nat):Int)=(1:Int)))&&(decide (x51.FErr=(23:Int))))&&((x52.FAt==([47,102]:Bs))))&&x53))))))
theorem Z36_eq (a0:TDoc) (a1:TRef) (a2:Z9):Z36 a0 a1 a2=Z36_q a0 a1 a2:=by
 unfold Z36 Z36_q;refine Qs ?_;refine Q.bindO (Z65_eq _) fun x4=>?_;refine Q.guardOO (Z56_eq _) fun x5=>?_;refine Q.guardOO (Z52_eq _) fun x6=>?_;refine Q.guardOO (Z45_eq _) fun x7=>?_;refine Q.guardOO (Z44_eq _) fun x8=>?_;refine Q.guardOO (Z37_eq _) fun x9=>?_;refine Q.condO ?_ ?_
 ·refine Q.bindO rfl fun x12=>?_;all_goals rfl
 refine Q.bindO (Z66_eq _ _) fun x15=>?_;refine Q.guardOO (Z10_eq _) fun x17=>?_;refine Q.guardPO (Z71_eq _ _) fun x18 hx_x18=>?_;refine Q.condO ?_ ?_
 ·refine Q.bindO rfl fun x21=>?_;all_goals rfl
 refine Q.bindPO (Z69_eq _ _) fun x23 hx_x23=>?_;refine Q.condO ?_ ?_
 ·refine Q.bindO rfl fun x28=>?_;all_goals rfl
 refine Q.bindO rfl fun x30=>?_;refine Q.bindPO (Z50_eq _) fun x31 hx_x31=>?_;refine Q.bindO rfl fun x32=>?_;refine Q.bindO (Z21_eq _ _) fun x35=>?_;refine Q.bindO (Z12_eq _ _ _ _) fun x37=>?_;refine Q.condO ?_ ?_
 ·refine Q.bindO rfl fun x42=>?_;all_goals rfl
 refine Q.condO ?_ ?_
 ·refine Q.guardOO rfl fun x48=>?_;all_goals rfl
 refine Q.guardOO rfl fun x51=>?_;refine Q.guardOO rfl fun x52=>?_;refine Q.guardOO rfl fun x53=>?_;all_goals rfl
end Go.Proofs

namespace Go.Proofs
open Go Go.Ab
theorem Z52_loop (a:TRef) (ha:a.FWraps.l.length<=1048576) (l:List Int) (i:Nat) (h:i+l.length=a.FWraps.l.length):Ok (Z52_q10 a l i):=by
 induction l generalizing i with
 | nil=>exact Tot.some _
 | cons x r ih =>
  simp only [List.length_cons] at h;have hr:=ih (i+1) (by omega);rw [Z52_q10];simp only [on];refine Tot.cond (fun _=>Tot.some _) fun _=>?_;by_cases hi:0<i
  ·have h1:decide ((0:Int)<((i:Nat):Int))=true:=by simpa using hi
   obtain⟨v,hv⟩:=idxC_ok (l:=a.FWraps.l) (n:=(i:Int)-1) (by omega);simp only [h1,cond_true,Bool.true_and,subC_ok (a:=(i:Int)) (b:=1) (by omega)];cases decide (x=1)<;>simp only [guardO,hv,if_true,Option.bind_some,Bool.false_eq_true,if_false,Bool.false_and,cond_false]
   ·exact hr
   ·(repeat' (first|exact Tot.some _|assumption|(with_reducible refine Tot.bind ?_ fun _ _=>?_)|(with_reducible refine Tot.guard (fun _=>?_) fun _ _ _=>?_)|(with_reducible refine Tot.cond (fun _=>?_) fun _=>?_)|(with_reducible refine Tot.on fun _ _=>?_)|split))
  ·have h1:decide ((0:Int)<((i:Nat):Int))=false:=by simpa using hi
   simp only [h1,Bool.false_and,guardO,Bool.false_eq_true,if_false,cond_false];exact hr
theorem Z52_ok (a:TRef) (ha:a.FWraps.l.length<=1048576):Ok (Z52_q a):=by
 unfold Z52_q
 (repeat' (first|exact Tot.some _|assumption|(with_reducible refine Tot.bind ?_ fun _ _=>?_)|(with_reducible refine Tot.guard (fun _=>?_) fun _ _ _=>?_)|(with_reducible refine Tot.cond (fun _=>?_) fun _=>?_)|(with_reducible refine Tot.on fun _ _=>?_)|split))
 exact Z52_loop a ha _ _ (by simp)
theorem Z45_loop (k:Z9->Option Int) (l:List Z9) (s:Int) (hk:∀x∈l,∃r,k x=some r/\1<=r/\r<=x.sz) (hs:0<=s) (hb:s+((l.map Z9.sz).sum:Nat)<=1152921504606846976):∃r,Z45_q7 k l s=some r/\s<=r/\r<=s+((l.map Z9.sz).sum:Nat):=by
 induction l generalizing s with
 | nil=>exact⟨s,rfl,by simp,by simp⟩
 | cons x r ih =>
  obtain⟨v,h1,h2,h3⟩:=hk x List.mem_cons_self;simp only [List.map_cons,List.sum_cons] at hb ⊢;rw [Z45_q7];simp only [on,h1,Option.bind_some];rw [addC_ok (by omega)];simp only [Option.bind_some];obtain⟨w,h4,h5,h6⟩:=ih (s+v) (fun y hy=>hk y (List.mem_cons_of_mem _ hy)) (by omega) (by omega);exact⟨w,h4,by omega,by omega⟩
theorem Z9.item_lt {v x:Z9}(h:x∈v.FItems.l):x.sz<v.sz:=by
 have h1:=v.sz_def; have h2:=Sl.mem_le (f:=Z9.sz) h; omega
theorem Z9.items_sum (v:Z9):2+(v.FItems.l.map Z9.sz).sum<=v.sz:=by
 have h1:=v.sz_def; have h2:Sl.sz Z9.sz v.FItems=1+(v.FItems.l.map Z9.sz).sum:=rfl; omega
theorem Z45_tot (n:Nat):∀v:Z9,v.sz<n->v.sz<=1073741824->∃r,Z45_qn n v=some r/\1<=r/\r<=v.sz:=by
 induction n with
 | zero=>intro v h; omega
 | succ n ih =>
  intro v h hb;have h0:=v.items_sum;obtain⟨w,h4,h5,h6⟩:=Z45_loop (Z45_qn n) v.FItems.l 1 (fun x hx=>by have:=Z9.item_lt hx; exact ih x (by omega) (by omega)) (by omega) (by omega);rw [Z45_qn,h4];exact⟨w,rfl,by omega,by omega⟩
theorem Z45_ok (v:Z9) (h:v.sz<=1048576):∃r,Z45_q v=some r/\1<=r/\r<=v.sz:=Z45_tot F0 v (by rw [F0_eq]; omega) (by omega)
theorem Z43_loop (k:Z9->Option Int) (l:List Z9) (s b:Int) (hk:∀x∈l,∃r,k x=some r/\1<=r/\r<=b) (hs:0<=s/\s<=b):∃r,Z43_q8 k l s=some r/\0<=r/\r<=b:=by
 induction l generalizing s with
 | nil=>exact⟨s,rfl,by omega,by omega⟩
 | cons x r ih =>
  obtain⟨v,h1,h2,h3⟩:=hk x List.mem_cons_self;rw [Z43_q8];simp only [on,h1,Option.bind_some];exact ih _ (fun y hy=>hk y (List.mem_cons_of_mem _ hy)) (by split<;>omega)
theorem Z43_tot (n:Nat):∀v:Z9,v.sz<n->v.sz<=1073741824->∃r,Z43_qn n v=some r/\1<=r/\r<=v.sz:=by
 induction n with
 | zero=>intro v h; omega
 | succ n ih =>
  intro v h hb;have h0:=v.items_sum;obtain⟨w,h4,h5,h6⟩:=Z43_loop (Z43_qn n) v.FItems.l 0 (v.sz-1:Nat) (fun x hx=>by have:=Z9.item_lt hx; obtain⟨r,h7,h8,h9⟩:=ih x (by omega) (by omega); exact⟨r,h7,h8,by omega⟩) (by omega);rw [Z43_qn,h4];simp only [on,Option.bind_some];rw [addC_ok (by omega)];exact⟨w+1,rfl,by omega,by omega⟩
theorem Z43_ok (v:Z9) (h:v.sz<=1048576):Ok (Z43_q v):=by
 obtain⟨r,hr,_⟩:=Z43_tot F0 v (by rw [F0_eq]; omega) (by omega); exact⟨r,hr⟩
theorem Z47_in (a:Sl Bs) (x:Bs) (m i:Nat) (h:i+m<=a.l.length):Ok (Z47_q13 a x m i):=by
 induction m generalizing i with
 | zero=>exact Tot.some _
 | succ m ih =>
  rw [Z47_q13]
  (repeat' (first|exact Tot.some _|assumption|(with_reducible refine Tot.bind ?_ fun _ _=>?_)|(with_reducible refine Tot.guard (fun _=>?_) fun _ _ _=>?_)|(with_reducible refine Tot.cond (fun _=>?_) fun _=>?_)|(with_reducible refine Tot.on fun _ _=>?_)|split))
  ·exact get_ok (by omega)
  ·exact ih _ (by omega)
theorem Z47_out (a:Sl Bs) (l:List Bs) (i:Nat) (h:i+l.length=a.l.length):Ok (Z47_q5 a l i):=by
 induction l generalizing i with
 | nil=>exact Tot.some _
 | cons x r ih =>
  simp only [List.length_cons] at h;rw [Z47_q5]
  (repeat' (first|exact Tot.some _|assumption|(with_reducible refine Tot.bind ?_ fun _ _=>?_)|(with_reducible refine Tot.guard (fun _=>?_) fun _ _ _=>?_)|(with_reducible refine Tot.cond (fun _=>?_) fun _=>?_)|(with_reducible refine Tot.on fun _ _=>?_)|split))
  ·exact Z47_in a x _ _ (by omega)
  ·exact ih _ (by omega)
theorem Z47_ok (a:Sl Bs):Ok (Z47_q a):=by
 unfold Z47_q
 (repeat' (first|exact Tot.some _|assumption|(with_reducible refine Tot.bind ?_ fun _ _=>?_)|(with_reducible refine Tot.guard (fun _=>?_) fun _ _ _=>?_)|(with_reducible refine Tot.cond (fun _=>?_) fun _=>?_)|(with_reducible refine Tot.on fun _ _=>?_)|split))
 exact Z47_out a _ _ (by simp)
theorem Z46_ok (v:Z9) (b:Bool):Ok (Z46_q v b):=by
 unfold Z46_q
 (repeat' (first|exact Tot.some _|assumption|(with_reducible refine Tot.bind ?_ fun _ _=>?_)|(with_reducible refine Tot.guard (fun _=>?_) fun _ _ _=>?_)|(with_reducible refine Tot.cond (fun _=>?_) fun _=>?_)|(with_reducible refine Tot.on fun _ _=>?_)|split))
 exact Z47_ok _
theorem Z48_loop (b:Bool) (k:Z9->Bool->Option Bool) (l:List Z9) (hk:∀x∈l,Ok (k x b)):Ok (Z48_q11 b k l):=by
 induction l with
 | nil=>exact Tot.some _
 | cons x r ih =>
  rw [Z48_q11]
  (repeat' (first|exact Tot.some _|assumption|(with_reducible refine Tot.bind ?_ fun _ _=>?_)|(with_reducible refine Tot.guard (fun _=>?_) fun _ _ _=>?_)|(with_reducible refine Tot.cond (fun _=>?_) fun _=>?_)|(with_reducible refine Tot.on fun _ _=>?_)|split))
  ·rename_i h; rw [h]; exact hk x List.mem_cons_self
  ·exact ih fun y hy=>hk y (List.mem_cons_of_mem _ hy)
theorem Z48_tot (n:Nat):∀(v:Z9) (b:Bool),v.sz<n->Ok (Z48_qn n v b):=by
 induction n with
 | zero=>intro v b h; omega
 | succ n ih =>
  intro v b h;rw [Z48_qn]
  (repeat' (first|exact Tot.some _|assumption|(with_reducible refine Tot.bind ?_ fun _ _=>?_)|(with_reducible refine Tot.guard (fun _=>?_) fun _ _ _=>?_)|(with_reducible refine Tot.cond (fun _=>?_) fun _=>?_)|(with_reducible refine Tot.on fun _ _=>?_)|split))
  ·exact Z46_ok _ _
  ·exact Z48_loop b _ _ fun x hx=>ih x b (by have:=Z9.item_lt hx; omega)
theorem Z44_ok (v:Z9) (h:v.sz<=1048576):Ok (Z44_q v):=by
 unfold Z44_q;obtain⟨r,hr,_⟩:=Z45_ok v h
 (repeat' (first|exact Tot.some _|assumption|(with_reducible refine Tot.bind ?_ fun _ _=>?_)|(with_reducible refine Tot.guard (fun _=>?_) fun _ _ _=>?_)|(with_reducible refine Tot.cond (fun _=>?_) fun _=>?_)|(with_reducible refine Tot.on fun _ _=>?_)|split))
 ·exact⟨r,hr⟩
 ·exact Z43_ok v h
 ·exact Z48_tot F0 v true (by rw [F0_eq]; omega)
theorem Z57_loop (k:Z9->Option Bool) (l:List Z9) (hk:∀x∈l,Ok (k x)):Ok (Z57_q5 k l):=by
 induction l with
 | nil=>exact Tot.some _
 | cons x r ih =>
  rw [Z57_q5]
  (repeat' (first|exact Tot.some _|assumption|(with_reducible refine Tot.bind ?_ fun _ _=>?_)|(with_reducible refine Tot.guard (fun _=>?_) fun _ _ _=>?_)|(with_reducible refine Tot.cond (fun _=>?_) fun _=>?_)|(with_reducible refine Tot.on fun _ _=>?_)|split))
  ·rename_i h; rw [h]; exact hk x List.mem_cons_self
  ·exact ih fun y hy=>hk y (List.mem_cons_of_mem _ hy)
theorem Z57_tot (n:Nat):∀(v:Z9),v.sz<n->Ok (Z57_qn n v):=by
 induction n with
 | zero=>intro v h; omega
 | succ n ih =>
  intro v h;rw [Z57_qn]
  (repeat' (first|exact Tot.some _|assumption|(with_reducible refine Tot.bind ?_ fun _ _=>?_)|(with_reducible refine Tot.guard (fun _=>?_) fun _ _ _=>?_)|(with_reducible refine Tot.cond (fun _=>?_) fun _=>?_)|(with_reducible refine Tot.on fun _ _=>?_)|split))
  exact Z57_loop _ _ fun x hx=>ih x (by have:=Z9.item_lt hx; omega)
theorem Z57_ok (v:Z9) (h:v.sz<=1048576):Ok (Z57_q v):=Z57_tot F0 v (by rw [F0_eq]; omega)
theorem TArg.value_le (a:TArg):a.FValue.sz<=a.sz:=by have:=a.sz_def; omega
theorem TDir.arg_le {x:TDir}{a:TArg}(h:a∈x.FArgs.l):a.sz<=x.sz:=by have:=x.sz_def; have:=Sl.mem_le (f:=TArg.sz) h; omega
theorem Z59_in (h10:TDir) (l:List TArg) (h:∀a∈l,a.sz<=1048576):Ok (Z59_q25 h10 l):=by
 induction l with
 | nil=>exact Tot.some _
 | cons x r ih =>
  have h1:=h x List.mem_cons_self; have h2:=x.value_le;rw [Z59_q25]
  (repeat' (first|exact Tot.some _|assumption|(with_reducible refine Tot.bind ?_ fun _ _=>?_)|(with_reducible refine Tot.guard (fun _=>?_) fun _ _ _=>?_)|(with_reducible refine Tot.cond (fun _=>?_) fun _=>?_)|(with_reducible refine Tot.on fun _ _=>?_)|split))
  all_goals first|exact ih fun y hy=>h y (List.mem_cons_of_mem _ hy)|(subst_vars; first|exact Z44_ok _ (by omega)|exact Z57_ok _ (by omega))
theorem Z59_loop (l:List TDir) (h:∀a∈l,a.sz<=1048576):Ok (Z59_q10 l):=by
 induction l with
 | nil=>exact Tot.some _
 | cons x r ih =>
  have h1:=h x List.mem_cons_self;rw [Z59_q10]
  (repeat' (first|exact Tot.some _|assumption|(with_reducible refine Tot.bind ?_ fun _ _=>?_)|(with_reducible refine Tot.guard (fun _=>?_) fun _ _ _=>?_)|(with_reducible refine Tot.cond (fun _=>?_) fun _=>?_)|(with_reducible refine Tot.on fun _ _=>?_)|split))
  ·exact Z59_in x _ fun a ha=>by have:=TDir.arg_le ha; omega
  ·exact ih fun y hy=>h y (List.mem_cons_of_mem _ hy)
theorem Z59_ok (s:Sl TDir) (h:Sl.sz TDir.sz s<=1048576):Ok (Z59_q s):=by
 unfold Z59_q
 (repeat' (first|exact Tot.some _|assumption|(with_reducible refine Tot.bind ?_ fun _ _=>?_)|(with_reducible refine Tot.guard (fun _=>?_) fun _ _ _=>?_)|(with_reducible refine Tot.cond (fun _=>?_) fun _=>?_)|(with_reducible refine Tot.on fun _ _=>?_)|split))
 exact Z59_loop _ fun a ha=>by have:=Sl.mem_le (f:=TDir.sz) ha; omega
theorem TRef.wraps_le (r:TRef):r.FWraps.l.length<=r.sz:=by have:=r.sz_def; have:=Sl.len_le (f:=fun _:Int=>1) r.FWraps (fun _=>Nat.le_refl _); omega
theorem Z61_loop (l:List Z6) (h:∀a∈l,a.sz<=1048576):Ok (Z61_q10 l):=by
 induction l with
 | nil=>exact Tot.some _
 | cons x r ih =>
  have h1:=h x List.mem_cons_self; have h2:=x.sz_def; have h3:=x.FType.wraps_le;rw [Z61_q10]
  (repeat' (first|exact Tot.some _|assumption|(with_reducible refine Tot.bind ?_ fun _ _=>?_)|(with_reducible refine Tot.guard (fun _=>?_) fun _ _ _=>?_)|(with_reducible refine Tot.cond (fun _=>?_) fun _=>?_)|(with_reducible refine Tot.on fun _ _=>?_)|split))
  all_goals first|exact ih fun y hy=>h y (List.mem_cons_of_mem _ hy)|(subst_vars; first|exact Z52_ok _ (by omega)|exact Z59_ok _ (by omega)|exact Z44_ok _ (by omega)|exact Z57_ok _ (by omega))
theorem Z61_ok (s:Sl Z6) (h:Sl.sz Z6.sz s<=1048576):Ok (Z61_q s):=by
 unfold Z61_q
 (repeat' (first|exact Tot.some _|assumption|(with_reducible refine Tot.bind ?_ fun _ _=>?_)|(with_reducible refine Tot.guard (fun _=>?_) fun _ _ _=>?_)|(with_reducible refine Tot.cond (fun _=>?_) fun _=>?_)|(with_reducible refine Tot.on fun _ _=>?_)|split))
 exact Z61_loop _ fun a ha=>by have:=Sl.mem_le (f:=Z6.sz) ha; omega
theorem Z60_loop (l:List Z4) (h:∀a∈l,a.sz<=1048576):Ok (Z60_q10 l):=by
 induction l with
 | nil=>exact Tot.some _
 | cons x r ih =>
  have h1:=h x List.mem_cons_self; have h2:=x.sz_def; have h3:=x.FType.wraps_le;have hz:Z4.zero.FType.FWraps.l.length<=1048576:=by decide
  rw [Z60_q10];simp only [on];cases Z40_q x.FName<;>simp only [Bool.not_true,Bool.not_false,cond_true,cond_false,Bool.or_false,Bool.or_true,Bool.true_or,Bool.false_or]
  ·simp [guardO]; exact Tot.some _
  ·obtain⟨b1,e1⟩:=Z61_ok x.FArgs (by omega);obtain⟨b2,e2⟩:=Z52_ok x.FType (by omega);obtain⟨b3,e3⟩:=Z59_ok x.FDirs (by omega);have hr:=ih fun y hy=>h y (List.mem_cons_of_mem _ hy);cases b1<;>cases b2<;>cases b3<;>simp [guardO,e1,e2,e3]<;>first|exact Tot.some _|exact hr
theorem Z60_ok (s:Sl Z4) (h:Sl.sz Z4.sz s<=1048576):Ok (Z60_q s):=by
 unfold Z60_q
 (repeat' (first|exact Tot.some _|assumption|(with_reducible refine Tot.bind ?_ fun _ _=>?_)|(with_reducible refine Tot.guard (fun _=>?_) fun _ _ _=>?_)|(with_reducible refine Tot.cond (fun _=>?_) fun _=>?_)|(with_reducible refine Tot.on fun _ _=>?_)|split))
 exact Z60_loop _ fun a ha=>by have:=Sl.mem_le (f:=Z4.sz) ha; omega
theorem Z62_loop (b:Bool) (l:List Z7) (h:∀a∈l,a.sz<=1048576):Ok (Z62_q10 b l):=by
 induction l with
 | nil=>exact Tot.some _
 | cons x r ih =>
  have h1:=h x List.mem_cons_self; have h2:=x.sz_def;rw [Z62_q10];simp only [on];cases Z40_q x.FName<;>simp only [Bool.not_true,Bool.not_false,cond_true,cond_false,Bool.or_false,Bool.or_true,Bool.true_or,Bool.false_or]
  ·simp [guardO]; exact Tot.some _
  ·obtain⟨b3,e3⟩:=Z59_ok x.FDirs (by omega);have hr:=ih fun y hy=>h y (List.mem_cons_of_mem _ hy);simp only [guardO,e3,if_true,Option.bind_some]
   (repeat' (first|exact Tot.some _|assumption|(with_reducible refine Tot.bind ?_ fun _ _=>?_)|(with_reducible refine Tot.guard (fun _=>?_) fun _ _ _=>?_)|(with_reducible refine Tot.cond (fun _=>?_) fun _=>?_)|(with_reducible refine Tot.on fun _ _=>?_)|split))
theorem Z62_ok (s:Sl Z7) (b:Bool) (h:Sl.sz Z7.sz s<=1048576):Ok (Z62_q s b):=by
 unfold Z62_q
 (repeat' (first|exact Tot.some _|assumption|(with_reducible refine Tot.bind ?_ fun _ _=>?_)|(with_reducible refine Tot.guard (fun _=>?_) fun _ _ _=>?_)|(with_reducible refine Tot.cond (fun _=>?_) fun _=>?_)|(with_reducible refine Tot.on fun _ _=>?_)|split))
 exact Z62_loop _ _ fun a ha=>by have:=Sl.mem_le (f:=Z7.sz) ha; omega
theorem Z58_ok (x:TDef) (h:x.sz<=1048576):Ok (Z58_q x):=by
 have h2:=x.sz_def;unfold Z58_q
 (repeat' (first|exact Tot.some _|assumption|(with_reducible refine Tot.bind ?_ fun _ _=>?_)|(with_reducible refine Tot.guard (fun _=>?_) fun _ _ _=>?_)|(with_reducible refine Tot.cond (fun _=>?_) fun _=>?_)|(with_reducible refine Tot.on fun _ _=>?_)|split))
 all_goals first|exact Z59_ok _ (by omega)|exact Z60_ok _ (by omega)|exact Z62_ok _ _ (by omega)|exact Z61_ok _ (by omega)
theorem Z56_loop (l:List TDef) (h:∀a∈l,a.sz<=1048576):Ok (Z56_q10 l):=by
 induction l with
 | nil=>exact Tot.some _
 | cons x r ih =>
  rw [Z56_q10]
  (repeat' (first|exact Tot.some _|assumption|(with_reducible refine Tot.bind ?_ fun _ _=>?_)|(with_reducible refine Tot.guard (fun _=>?_) fun _ _ _=>?_)|(with_reducible refine Tot.cond (fun _=>?_) fun _=>?_)|(with_reducible refine Tot.on fun _ _=>?_)|split))
  ·subst_vars; exact Z58_ok _ (h _ List.mem_cons_self)
  ·exact ih fun y hy=>h y (List.mem_cons_of_mem _ hy)
theorem TDoc.def_le {d:TDoc}{x:TDef}(h:x∈d.FDefs.l):x.sz<=d.sz:=by have:=d.sz_def; have:=Sl.mem_le (f:=TDef.sz) h; omega
theorem Z56_ok (d:TDoc) (h:d.sz<=1048576):Ok (Z56_q d):=by
 unfold Z56_q
 (repeat' (first|exact Tot.some _|assumption|(with_reducible refine Tot.bind ?_ fun _ _=>?_)|(with_reducible refine Tot.guard (fun _=>?_) fun _ _ _=>?_)|(with_reducible refine Tot.cond (fun _=>?_) fun _=>?_)|(with_reducible refine Tot.on fun _ _=>?_)|split))
 exact Z56_loop _ fun a ha=>by have:=TDoc.def_le ha; omega
end Go.Proofs

namespace Go.Proofs
open Go Go.Ab
theorem Z65_in (l:List Z4) (s:Int) (hs:0<=s) (hb:s+((l.map Z4.sz).sum:Nat)<=1152921504606846976) (ha:∀a∈l,a.sz<=1048576):∃r,Z65_q36 l s=some r/\0<=r/\r<=s+((l.map Z4.sz).sum:Nat):=by
 induction l generalizing s with
 | nil=>exact⟨s,rfl,by omega,by simp⟩
 | cons x r ih =>
  have h1:=ha x List.mem_cons_self; have h2:=x.sz_def;have h3:=Sl.len_lt (f:=Z6.sz) x.FArgs Z6.pos; have h4:=Sl.len_lt (f:=TDir.sz) x.FDirs TDir.pos;simp only [List.map_cons,List.sum_cons] at hb ⊢;rw [Z65_q36];simp only [on];rw [addC_ok (by omega)]; simp only [Option.bind_some];rw [addC_ok (by omega)]; simp only [Option.bind_some];obtain⟨z,e7,e8,e9⟩:=ih (s+((x.FArgs.l.length:Nat)+(x.FDirs.l.length:Nat))) (by omega) (by omega) (fun y hy=>ha y (List.mem_cons_of_mem _ hy))
  exact⟨z,e7,by omega,by omega⟩
theorem Z65_out (l:List TDef) (s:Int) (hs:0<=s) (hb:s+2*((l.map TDef.sz).sum:Nat)<=1152921504606846976) (ha:∀a∈l,a.sz<=1048576):∃r,Z65_q12 l s=some r:=by
 induction l generalizing s with
 | nil=>exact⟨s,rfl⟩
 | cons x r ih =>
  have h1:=ha x List.mem_cons_self; have h2:=x.sz_def;have h3:=Sl.len_lt (f:=Z4.sz) x.FFields Z4.pos; have h4:=Sl.len_lt (f:=TDir.sz) x.FDirs TDir.pos; have h5:=Sl.len_lt (f:=Z7.sz) x.FMembers Z7.pos;have h6:=Sl.len_lt (f:=Z6.sz) x.FInputs Z6.pos; have h7:=Sl.len_lt (f:=Bs.sz) x.FImplements Bs.sz_pos;have h8:Sl.sz Z4.sz x.FFields=1+(x.FFields.l.map Z4.sz).sum:=rfl;simp only [List.map_cons,List.sum_cons] at hb
  rw [Z65_q12];simp only [on];iterate 6 (rw [addC_ok (by omega)]; simp only [Option.bind_some])
  obtain⟨z,e1,e2,e3⟩:=Z65_in x.FFields.l (s+(1+(x.FFields.l.length:Nat)+(x.FMembers.l.length:Nat)+(x.FInputs.l.length:Nat)+(x.FDirs.l.length:Nat)+(x.FImplements.l.length:Nat))) (by omega) (by omega) (fun a haa=>by have:=Sl.mem_le (f:=Z4.sz) haa; omega);simp only [e1,Option.bind_some];exact ih z e2 (by omega) (fun y hy=>ha y (List.mem_cons_of_mem _ hy))
theorem Z65_ok (d:TDoc) (h:d.sz<=1048576):Ok (Z65_q d):=by
 have hd:=d.sz_def;have h1:Sl.sz TDef.sz d.FDefs=1+(d.FDefs.l.map TDef.sz).sum:=rfl;unfold Z65_q
 (repeat' (first|exact Tot.some _|assumption|(with_reducible refine Tot.bind ?_ fun _ _=>?_)|(with_reducible refine Tot.guard (fun _=>?_) fun _ _ _=>?_)|(with_reducible refine Tot.cond (fun _=>?_) fun _=>?_)|(with_reducible refine Tot.on fun _ _=>?_)|split))
 exact Z65_out _ _ (by omega) (by omega) fun a ha=>by have:=TDoc.def_le ha; omega
end Go.Proofs

namespace Go.Proofs
open Go Go.Ab
def nnW (w:List Int):Bool:=w.head?==some 1
def liW (w:List Int):Bool:=w.head?==some 2
def barS (s:Sl Int):Sl Int:=bif nnW s.l then⟨s.nl,s.l.drop 1⟩ else s
def bar (t:TRef):TRef:=⟨t.FName,barS t.FWraps⟩
def innerT (t:TRef):TRef:=⟨t.FName,⟨(barS t.FWraps).nl,(barS t.FWraps).l.drop 1⟩⟩
theorem clone_eq {s:Sl Int}(h:SOk s):Z85_q s=some s:=by
 unfold Z85_q;obtain⟨nl,l⟩:=s;cases nl with
 | true=>have:=h.1 rfl; simp only at this; subst this; rfl
 | false =>
  simp only [cond_false];rw [appC_ok (by omega) (by have:=h.2; simp at this ⊢; omega)];simp
theorem isNonNull_eq (t:TRef):Z104_q t=nnW t.FWraps.l:=by
 unfold Z104_q nnW on;cases t.FWraps.l with
 | nil=>rfl
 | cons a r=>simp; by_cases h:a=1<;>simp [h]
theorem head_one {w:List Int}(h:nnW w=true):1<=w.length:=by cases w<;>simp [nnW] at h ⊢
theorem sok_drop {α:Type}{s:Sl α}(n:Nat) (h:SOk s):SOk ⟨s.nl,s.l.drop n⟩:=⟨fun e=>by simp [h.1 e],by have:=h.2; simp; omega⟩
theorem barS_ok {s:Sl Int}(h:SOk s):SOk (barS s):=by
 unfold barS;cases nnW s.l with
 | true=>exact sok_drop 1 h
 | false=>exact h
theorem innerT_ok {t:TRef}(h:SOk t.FWraps):SOk (innerT t).FWraps:=sok_drop 1 (barS_ok h)
theorem nullable_eq {t:TRef}(h:SOk t.FWraps):Z107_q t=some (bar t):=by
 unfold Z107_q bar barS on;simp only [isNonNull_eq];cases hn:nnW t.FWraps.l with
 | true =>
  simp only [cond_true];rw [partC_tail (head_one hn)];simp only [Option.bind_some];rw [clone_eq (sok_drop 1 h)]; rfl
 | false =>
  simp only [cond_false,Option.bind_some];rw [clone_eq h]; rfl
theorem isList_eq {t:TRef}(h:SOk t.FWraps):Z103_q t=some (liW (barS t.FWraps).l):=by
 unfold Z103_q;rw [nullable_eq h];simp only [Option.bind_some,on,bar,liW];cases (barS t.FWraps).l with
 | nil=>rfl
 | cons a r=>simp; by_cases h:a=2<;>simp [h]
theorem list_one {w:List Int}(h:liW w=true):1<=w.length:=by cases w<;>simp [liW] at h ⊢
theorem inner_eq {t:TRef}(h:SOk t.FWraps):Z102_q t=some (bif liW (barS t.FWraps).l then(innerT t,true) else(⟨[],Sl.nil⟩,false)):=by
 unfold Z102_q;rw [isList_eq h];simp only [Option.bind_some];cases hl:liW (barS t.FWraps).l with
 | false=>rfl
 | true =>
  simp only [Bool.not_true,cond_false,cond_true];rw [nullable_eq h];simp only [Option.bind_some,bar];rw [partC_tail (list_one hl)];rfl
theorem inner_lt {t:TRef}(h:liW (barS t.FWraps).l=true):(innerT t).FWraps.l.length<t.FWraps.l.length:=by
 have h1:=list_one h;have h2:(barS t.FWraps).l.length<=t.FWraps.l.length:=by
  unfold barS; cases nnW t.FWraps.l<;>simp
 simp [innerT]; omega
theorem findAux (l:List TDef) (s:Bs):Z69_q7 s l=(match l.find? (fun t=>t.FName==s) with|some t=>Sum.inr (t,true)|none=>Sum.inl ()):=by
 induction l with
 | nil=>rfl
 | cons a r ih =>
  rw [Z69_q7,List.find?_cons];simp only [on,ih];cases a.FName==s<;>rfl
def fnd (l:List TDef) (s:Bs):TDef×Bool:=match l.find? (fun t=>t.FName==s) with|some t=>(t,true)|none=>(TDef.zero,false)
theorem find_eq (d:TDoc) (s:Bs):Z69_q d s=fnd d.FDefs.l s:=by
 unfold Z69_q fnd on;rw [findAux];cases d.FDefs.l.find? (fun t=>t.FName==s)<;>rfl
theorem fnd_mem (l:List TDef) (s:Bs):(fnd l s).1=TDef.zero\/(fnd l s).1∈l:=by
 unfold fnd;cases h:l.find? (fun t=>t.FName==s) with
 | none=>exact .inl rfl
 | some t=>exact .inr (List.mem_of_find?_eq_some h)
theorem inputAux (l:List Z6) (s:Bs):Z70_q7 s l=(match l.find? (fun t=>t.FName==s) with|some t=>Sum.inr (t,true)|none=>Sum.inl ()):=by
 induction l with
 | nil=>rfl
 | cons a r ih =>
  rw [Z70_q7,List.find?_cons];simp only [on,ih];cases a.FName==s<;>rfl
def fndI (l:List Z6) (s:Bs):Z6×Bool:=match l.find? (fun t=>t.FName==s) with|some t=>(t,true)|none=>(Z6.zero,false)
theorem inputOf_eq (t:Sl Z6) (s:Bs):Z70_q t s=fndI t.l s:=by
 unfold Z70_q fndI on;rw [inputAux];cases t.l.find? (fun t=>t.FName==s)<;>rfl
def DefsOk (d:TDoc):Prop:=∀x∈d.FDefs.l,x.FFields.l.length<=1048576/\x.FInputs.l.length<=1048576/\(∀f∈x.FFields.l,SOk f.FType.FWraps/\f.FArgs.l.length<=1048576/\∀i∈f.FArgs.l,SOk i.FType.FWraps)/\∀i∈x.FInputs.l,SOk i.FType.FWraps
theorem TRef.sok {r:TRef}(h:r.sz<=1048576) (hw:r.wf):SOk r.FWraps:=⟨hw.2.1.1,by have:=r.sz_def; have:=Sl.len_le (f:=fun _:Int=>1) r.FWraps (fun _=>Nat.le_refl _); omega⟩
theorem Z6.sok {r:Z6}(h:r.sz<=1048576) (hw:r.wf):SOk r.FType.FWraps:=TRef.sok (by have:=r.sz_def; omega) (Z6.FType_wf hw)
theorem defsOk {d:TDoc}(h:d.sz<=1048576) (hw:d.wf):DefsOk d:=by
 intro x hx;have h1:=x.sz_def; have h2:=d.sz_def; have h3:=Sl.mem_le (f:=TDef.sz) hx;have h4:=Sl.len_lt (f:=Z4.sz) x.FFields Z4.pos; have h5:=Sl.len_lt (f:=Z6.sz) x.FInputs Z6.pos;have w:x.wf:=(TDoc.FDefs_wf hw).2.2 x hx;refine⟨by omega,by omega,fun f hf=>?_,fun i hi=>?_⟩
 ·have h6:=Sl.mem_le (f:=Z4.sz) hf; have h7:=f.sz_def; have h8:=Sl.len_lt (f:=Z6.sz) f.FArgs Z6.pos;have wf:f.wf:=(TDef.FFields_wf w).2.2 f hf;exact⟨TRef.sok (by omega) (Z4.FType_wf wf),by omega,fun i hi=>Z6.sok (by have:=Sl.mem_le (f:=Z6.sz) hi; omega) ((Z4.FArgs_wf wf).2.2 i hi)⟩
 ·exact Z6.sok (by have:=Sl.mem_le (f:=Z6.sz) hi; omega) ((TDef.FInputs_wf w).2.2 i hi)
theorem find_ok {d:TDoc}(h:DefsOk d) (s:Bs):(fnd d.FDefs.l s).1.FFields.l.length<=1048576/\(fnd d.FDefs.l s).1.FInputs.l.length<=1048576/\(∀f∈(fnd d.FDefs.l s).1.FFields.l,SOk f.FType.FWraps/\f.FArgs.l.length<=1048576/\∀i∈f.FArgs.l,SOk i.FType.FWraps)/\∀i∈(fnd d.FDefs.l s).1.FInputs.l,SOk i.FType.FWraps:=by
 rcases fnd_mem d.FDefs.l s with e|e
 ·rw [e]; exact⟨by simp [TDef.zero,Sl.nil],by simp [TDef.zero,Sl.nil],by simp [TDef.zero,Sl.nil],by simp [TDef.zero,Sl.nil]⟩
 ·exact h _ e
theorem sok_zero:SOk Z6.zero.FType.FWraps:=⟨fun _=>rfl,by decide⟩
theorem inputOk {l:List Z6}(h:∀i∈l,SOk i.FType.FWraps) (s:Bs):SOk (fndI l s).1.FType.FWraps:=by
 unfold fndI;cases e:l.find? (fun t=>t.FName==s) with
 | none=>exact sok_zero
 | some t=>exact h _ (List.mem_of_find?_eq_some e)
end Go.Proofs

namespace Go.Proofs
open Go Go.Ab
theorem index_value (l:List Z9) (p:Z9->Option Bool) (i:Nat) (h:∀x∈l,Ok (p x)):Ok (Z92_q6m p l i):=by
 induction l generalizing i with
 | nil=>exact Tot.some _
 | cons x r ih =>
  have hr:=ih (i+1) fun y hy=>h y (List.mem_cons_of_mem _ hy);have hx:=h x List.mem_cons_self;rw [Z92_q6m];simp only [on]
  (repeat' (first|exact Tot.some _|assumption|(with_reducible refine Tot.bind ?_ fun _ _=>?_)|(with_reducible refine Tot.guard (fun _=>?_) fun _ _ _=>?_)|(with_reducible refine Tot.cond (fun _=>?_) fun _=>?_)|(with_reducible refine Tot.on fun _ _=>?_)|split))
theorem contains_value (l:Sl Z9) (p:Z9->Option Bool) (h:∀x∈l.l,Ok (p x)):Ok (Z87_qm l p):=by
 unfold Z87_qm Z92_qm;have h1:=index_value l.l p 0 h
 (repeat' (first|exact Tot.some _|assumption|(with_reducible refine Tot.bind ?_ fun _ _=>?_)|(with_reducible refine Tot.guard (fun _=>?_) fun _ _ _=>?_)|(with_reducible refine Tot.cond (fun _=>?_) fun _=>?_)|(with_reducible refine Tot.on fun _ _=>?_)|split))
theorem object_loop (d:TDoc) (df:TDef) (v:Z9) (k:TDoc->TRef->Z9->Option Bool) (l:List Bs) (i:Nat) (h:∀t x,SOk t.FWraps->x∈v.FItems.l->Ok (k d t x)) (hd:∀i∈df.FInputs.l,SOk i.FType.FWraps):Ok (Z33_q7 d df v k l i):=by
 induction l generalizing i with
 | nil=>exact Tot.some _
 | cons x r ih =>
  have hr:=ih (i+1);rw [Z33_q7];simp only [on,inputOf_eq];have hs:=inputOk hd x;generalize fndI df.FInputs.l x=y at hs;by_cases hi:i<v.FItems.l.length
  ·obtain⟨b,hb⟩:=h _ _ hs (List.getElem_mem hi);have hd2:decide (((v.FItems.l.length:Nat):Int)<=((i:Nat):Int))=false:=by simp; omega
   simp only [List.getElem?_eq_getElem hi,hd2,Bool.or_false];cases y.2<;>simp only [guardO,Bool.not_false,Bool.not_true,if_true,Bool.false_eq_true,if_false,Option.bind_some,hb,Bool.true_or,Bool.false_or,cond_true]
   ·exact Tot.some _
   ·(repeat' (first|exact Tot.some _|assumption|(with_reducible refine Tot.bind ?_ fun _ _=>?_)|(with_reducible refine Tot.guard (fun _=>?_) fun _ _ _=>?_)|(with_reducible refine Tot.cond (fun _=>?_) fun _=>?_)|(with_reducible refine Tot.on fun _ _=>?_)|split))
  ·have hd2:decide (((v.FItems.l.length:Nat):Int)<=((i:Nat):Int))=true:=by simp; omega
   simp only [hd2,Bool.or_true,guardO,Bool.not_true,Bool.false_eq_true,if_false,Bool.true_or,cond_true];exact Tot.some _
theorem fits_tot (d:TDoc) (hd:DefsOk d) (n:Nat) :
  (∀(t:TRef) (v:Z9),SOk t.FWraps->2*(v.sz*2097152+t.FWraps.l.length)+2<n->Ok (fields_fits_qn n d t v)) /\
  (∀(v:Z9) (t:TRef),SOk t.FWraps->2*(v.sz*2097152+t.FWraps.l.length)+3<n->Ok (fields_fits_1_qn n v d t)) /\
  (∀(x:TDef) (v:Z9),(∀i∈x.FInputs.l,SOk i.FType.FWraps)->2*(v.sz*2097152)+1<n->Ok (Z33_qn n d x v)):=by
 induction n with
 | zero=>exact⟨fun _ _ _ h=>by omega,fun _ _ _ h=>by omega,fun _ _ _ h=>by omega⟩
 | succ n ih =>
  obtain⟨ih1,ih2,ih3⟩:=ih;refine⟨fun t v ht h=>?_,fun v t ht h=>?_,fun x v hx h=>?_⟩
  ·rw [fields_fits_qn];simp only [inner_eq ht,Option.bind_some,find_eq];refine Tot.cond (fun _=>Tot.some _) fun _=>Tot.on fun _ _=>Tot.cond (fun _=>Tot.some _) fun _=>Tot.cond (fun _=>Tot.on fun _ _=>Tot.some _) fun _=>?_;cases hl:liW (barS t.FWraps).l with
   | true =>
    have h1:=inner_lt hl; have h2:=innerT_ok ht; have h3:=h2.2; have h4:=ht.2;simp only [cond_true]
    (repeat' (first|exact Tot.some _|assumption|(with_reducible refine Tot.bind ?_ fun _ _=>?_)|(with_reducible refine Tot.guard (fun _=>?_) fun _ _ _=>?_)|(with_reducible refine Tot.cond (fun _=>?_) fun _=>?_)|(with_reducible refine Tot.on fun _ _=>?_)|split))
    ·exact ih1 _ _ h2 (by omega)
    ·exact contains_value _ _ fun x hx=>ih2 x _ h2 (by have:=Z9.item_lt hx; omega)
   | false =>
    simp only [cond_false]
    (repeat' (first|exact Tot.some _|assumption|(with_reducible refine Tot.bind ?_ fun _ _=>?_)|(with_reducible refine Tot.guard (fun _=>?_) fun _ _ _=>?_)|(with_reducible refine Tot.cond (fun _=>?_) fun _=>?_)|(with_reducible refine Tot.on fun _ _=>?_)|split))
    rename_i hx _ _
    rw [hx];exact ih3 _ _ (find_ok hd _).2.2.2 (by omega)
  ·rw [fields_fits_1_qn];exact Tot.bind (ih1 t v ht (by omega)) fun _ _=>Tot.some _
  ·rw [Z33_qn];have h1:=object_loop d x v (fields_fits_qn n) v.FKeys.l 0 (fun t y ht hy=>ih1 t y ht (by have:=Z9.item_lt hy; have:=ht.2; omega)) hx
   (repeat' (first|exact Tot.some _|assumption|(with_reducible refine Tot.bind ?_ fun _ _=>?_)|(with_reducible refine Tot.guard (fun _=>?_) fun _ _ _=>?_)|(with_reducible refine Tot.cond (fun _=>?_) fun _=>?_)|(with_reducible refine Tot.on fun _ _=>?_)|split))
def fitsB (d:TDoc) (t:TRef) (v:Z9):Bool:=(fields_fits_q d t v).getD false
theorem fits_eq {d:TDoc}(hd:DefsOk d){t:TRef}{v:Z9}(ht:SOk t.FWraps) (hv:v.sz<=1048576):fields_fits_q d t v=some (fitsB d t v):=by
 obtain⟨b,hb⟩:=(fits_tot d hd F0).1 t v ht (by have:=ht.2; rw [F0_eq]; omega);have:fields_fits_q d t v=some b:=hb;simp [fitsB,this]
end Go.Proofs
