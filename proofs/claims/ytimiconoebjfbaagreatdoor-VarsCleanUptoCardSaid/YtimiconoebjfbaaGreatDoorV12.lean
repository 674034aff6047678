import Derived.Test.YtimiconoebjfbaaGreatDoorV11
set_option maxRecDepth 100000
set_option maxHeartbeats 2000000
set_option linter.unusedVariables false
set_option linter.unusedSimpArgs false
namespace Go.Proofs
open Go Go.Ab
def Z48_q36 :List TField->Int->Option (Int)
 | [],s3_37=>some s3_37
 | h36::r36,s3_37=>on (h36) fun x44=>on (h36) fun x45=>(addC ((x44.FArgs.l.length:Nat):Int) ((x45.FDirs.l.length:Nat):Int)).bind fun x46=>(addC s3_37 x46).bind fun x47=>Z48_q36  (r36) x47
theorem Z48_l36_qe {s4_14:Nat}{x22:TDef}{k_next_12:Int->Nat->Option Bool}  (Kb36:(Int)->Option Bool) (hend:∀(n36:Nat) (s3_37:Int) (s6_38:Nat),Z48_j19 s4_14 k_next_12 s3_37=Kb36 s3_37):∀(n36:Nat) (s3_37:Int) (s6_38:Nat),(0<n36/\x22.FFields.l.length<s6_38+n36)->Z48_l36 s4_14 x22 k_next_12 n36 s3_37 s6_38=Option.bind (Z48_q36  (x22.FFields.l.drop s6_38) s3_37) Kb36:=by
 intro n36;induction n36 with
 | zero=>intro s3_37 s6_38 hn; exact absurd hn.1 (by omega)
 | succ n36 ih36 =>
  intro s3_37 s6_38 hn;rw [Z48_l36];by_cases hlt:s6_38<x22.FFields.l.length
  ·obtain⟨h36,hh36⟩:∃x,x22.FFields.l[s6_38]?=some x:=⟨_,List.getElem?_eq_getElem hlt⟩;rw [Q.drop_of hh36,Z48_q36];refine Q.condT (Q.ltT hlt) ?_;refine Q.bindPO hh36 fun x44 hx_x44=>?_;refine Q.bindPO hh36 fun x45 hx_x45=>?_;refine Q.bindO rfl fun x46=>?_;refine Q.bindO rfl fun x47=>?_;all_goals exact ih36 _ _ ⟨by omega,by omega⟩
  rw [List.drop_of_length_le (by omega),Z48_q36];refine Q.condF (Q.ltF hlt) ?_;exact hend n36 s3_37 s6_38
def Z48_q12 :List TDef->Int->Option (Int)
 | [],s3_13=>some s3_13
 | h12::r12,s3_13=>on (h12) fun x22=>(addC (1:Int) ((x22.FFields.l.length:Nat):Int)).bind fun x25=>(addC x25 ((x22.FMembers.l.length:Nat):Int)).bind fun x27=>(addC x27 ((x22.FInputs.l.length:Nat):Int)).bind fun x29=>(addC x29 ((x22.FDirs.l.length:Nat):Int)).bind fun x31=>(addC x31 ((x22.FImplements.l.length:Nat):Int)).bind fun x33=>(addC s3_13 x33).bind fun x34=>Option.bind (Z48_q36  x22.FFields.l x34) fun s3_37=>on (s3_37) fun s3_20=>Z48_q12  (r12) s3_20
theorem Z48_l12_qe {a0:TDoc}  (Kb12:(Int)->Option Bool) (hend:∀(n12:Nat) (s3_13:Int) (s4_14:Nat),Z48_j8   s3_13=Kb12 s3_13):∀(n12:Nat) (s3_13:Int) (s4_14:Nat),(0<n12/\a0.FDefs.l.length<s4_14+n12)->Z48_l12 a0 n12 s3_13 s4_14=Option.bind (Z48_q12  (a0.FDefs.l.drop s4_14) s3_13) Kb12:=by
 intro n12;induction n12 with
 | zero=>intro s3_13 s4_14 hn; exact absurd hn.1 (by omega)
 | succ n12 ih12 =>
  intro s3_13 s4_14 hn;rw [Z48_l12];by_cases hlt:s4_14<a0.FDefs.l.length
  ·obtain⟨h12,hh12⟩:∃x,a0.FDefs.l[s4_14]?=some x:=⟨_,List.getElem?_eq_getElem hlt⟩;rw [Q.drop_of hh12,Z48_q12];refine Q.condT (Q.ltT hlt) ?_;refine Q.bindPO hh12 fun x22 hx_x22=>?_;refine Q.bindO rfl fun x25=>?_;refine Q.bindO rfl fun x27=>?_;refine Q.bindO rfl fun x29=>?_;refine Q.bindO rfl fun x31=>?_;refine Q.bindO rfl fun x33=>?_;refine Q.bindO rfl fun x34=>?_;refine Q.wrapOO fun Kb36 hKb36=>?_
   refine Z48_l36_qe  Kb36 ?_ _ _ _ ⟨Nat.succ_pos _,by omega⟩;intro n36 s3_37 s6_38;refine Eq.trans ?_ (hKb36 _).symm;refine Q.wrapPO fun Kj19 hKj19=>?_;have hj19:∀(s3_20:Int),Z48_j19 s4_14 (Z48_l12 a0 n12) s3_20=Kj19 s3_20:=by
    intro s3_20;refine Eq.trans ?_ (hKj19 _).symm;unfold Z48_j19;all_goals exact ih12 _ _ ⟨by omega,by omega⟩
   all_goals exact hj19 _
  rw [List.drop_of_length_le (by omega),Z48_q12];refine Q.condF (Q.ltF hlt) ?_;exact hend n12 s3_13 s4_14
def Z48_q (a0:TDoc):Option Bool:=bif (decide ((70:Int)<((a0.FDefs.l.length:Nat):Int))) then(some true) else(Option.bind (Z48_q12  a0.FDefs.l (0:Int)) fun s3_13=>on (s3_13) fun s3_9=>some (decide ((1000:Int)<s3_9)))
theorem Z48_eq (a0:TDoc):Z48 a0=Z48_q a0:=by
 unfold Z48 Z48_q;refine Eq.trans ?_ (Q.some_bind _);refine Q.condO ?_ ?_
 ·all_goals rfl
 refine Q.wrapOO fun Kb12 hKb12=>?_;refine Z48_l12_qe  Kb12 ?_ _ _ _ ⟨Nat.succ_pos _,by omega⟩;intro n12 s3_13 s4_14;refine Eq.trans ?_ (hKb12 _).symm;refine Q.wrapPO fun Kj8 hKj8=>?_;have hj8:∀(s3_9:Int),Z48_j8  s3_9=Kj8 s3_9:=by
  intro s3_9;refine Eq.trans ?_ (hKj8 _).symm;unfold Z48_j8;all_goals rfl
 all_goals exact hj8 _
def Z82_q5 (a1:Int) (k_rec_26:(Sl TSel)->Int->Option Bool):List TSel->Option (Unit ⊕ Bool)
 | []=>some (Sum.inl ())
 | h5::r5=>on (bif !(decide (a1<=(0:Int))) then h5 else TSel.zero) fun x13=>guardO (!(decide (a1<=(0:Int)))) (subC a1 (1:Int)) (0:Int) fun x14=>guardO (!(decide (a1<=(0:Int)))) (k_rec_26 x13.FSels x14) false fun x15=>bif ((decide (a1<=(0:Int)))||x15) then(some (Sum.inr true)) else(Z82_q5 a1 k_rec_26 (r5) )
theorem Z82_l5_qe {a0:(Sl TSel)}{a1:Int}{k_rec_26:(Sl TSel)->Int->Option Bool}  (Kb5:(Unit ⊕ Bool)->Option Bool) (hend:∀(n5:Nat) (s5_6:Nat),Z82_j2   =Kb5 (Sum.inl ())) (hret:∀e:Bool,some e=Kb5 (Sum.inr e)):∀(n5:Nat) (s5_6:Nat),(0<n5/\a0.l.length<s5_6+n5)->Z82_l5 a0 a1 k_rec_26 n5 s5_6=Option.bind (Z82_q5 a1 k_rec_26 (a0.l.drop s5_6) ) Kb5:=by
 intro n5;induction n5 with
 | zero=>intro s5_6 hn; exact absurd hn.1 (by omega)
 | succ n5 ih5 =>
  intro s5_6 hn;rw [Z82_l5];by_cases hlt:s5_6<a0.l.length
  ·obtain⟨h5,hh5⟩:∃x,a0.l[s5_6]?=some x:=⟨_,List.getElem?_eq_getElem hlt⟩;rw [Q.drop_of hh5,Z82_q5];refine Q.condT (Q.ltT hlt) ?_;refine Q.guardPO hh5 fun x13 hx_x13=>?_;refine Q.guardOO rfl fun x14=>?_;refine Q.guardOO rfl fun x15=>?_;refine Q.condO ?_ ?_
   ·all_goals exact hret _
   all_goals exact ih5 _ ⟨by omega,by omega⟩
  rw [List.drop_of_length_le (by omega),Z82_q5];refine Q.condF (Q.ltF hlt) ?_;exact hend n5 s5_6
def Z82_qn:Nat->(Sl TSel)->Int->Option Bool
 | 0,_,_=>none
 | n+1,a0,a1=>Option.bind (Z82_q5 a1 (Z82_qn n) a0.l ) fun o5=>match o5 with|Sum.inl _=>(on (()) fun _=>some false)|Sum.inr e5=>(some e5)
theorem Z82_qall:∀n:Nat,Z82_n n=Z82_qn n:=by
 intro n;induction n with
 | zero=>exact(by funext a0 a1; first|rfl|(rw [Z82_n,Z82_qn]))
 | succ n ih =>
  funext a0 a1
  refine Eq.trans ?_ (Q.some_bind _);rw [Z82_n,Z82_qn];try rw [ih]
  refine Q.wrapOO fun Kb5 hKb5=>?_;refine Z82_l5_qe  Kb5 ?_ ?_ _ _ ⟨Nat.succ_pos _,by omega⟩
  ·intro n5 s5_6;refine Eq.trans ?_ (hKb5 _).symm;try dsimp only
   refine Q.wrapPO fun Kj2 hKj2=>?_;have hj2:Z82_j2  =Kj2 ():=by
    refine Eq.trans ?_ (hKj2 _).symm;unfold Z82_j2;all_goals rfl
   all_goals exact hj2
  intro e5;refine Eq.trans ?_ (hKb5 _).symm;try dsimp only
  all_goals rfl
def Z82_q (a0:(Sl TSel)) (a1:Int):Option Bool:=Z82_qn F0 a0 a1
theorem Z82_eq (a0:(Sl TSel)) (a1:Int):Z82 a0 a1=Z82_q a0 a1:=by
 unfold Z82 Z82_q; rw [(Z82_qall F0)]
def Z81_q7 (a1:Int) (k_rec_27:(Sl TSel)->Int->Option Int):List TSel->Int->Option (Int)
 | [],s5_8=>some s5_8
 | h7::r7,s5_8=>bif (decide (s5_8<a1)) then(on (h7) fun x15=>(addC (1:Int) ((x15.FArgs.l.length:Nat):Int)).bind fun x16=>on (h7) fun x17=>(addC x16 ((x17.FDirs.l.length:Nat):Int)).bind fun x18=>on (h7) fun x19=>(subC a1 s5_8).bind fun x20=>(k_rec_27 x19.FSels x20).bind fun x21=>(addC x18 x21).bind fun x22=>(addC s5_8 x22).bind fun x23=>Z81_q7 a1 k_rec_27 (r7) x23) else(some s5_8)
theorem Z81_l7_qe {a0:(Sl TSel)}{a1:Int}{k_rec_27:(Sl TSel)->Int->Option Int}  (Kb7:(Int)->Option Int) (hend:∀(n7:Nat) (s5_8:Int) (s6_9:Nat),Z81_j3   s5_8=Kb7 s5_8):∀(n7:Nat) (s5_8:Int) (s6_9:Nat),(0<n7/\a0.l.length<s6_9+n7)->Z81_l7 a0 a1 k_rec_27 n7 s5_8 s6_9=Option.bind (Z81_q7 a1 k_rec_27 (a0.l.drop s6_9) s5_8) Kb7:=by
 intro n7;induction n7 with
 | zero=>intro s5_8 s6_9 hn; exact absurd hn.1 (by omega)
 | succ n7 ih7 =>
  intro s5_8 s6_9 hn;rw [Z81_l7];by_cases hlt:s6_9<a0.l.length
  ·obtain⟨h7,hh7⟩:∃x,a0.l[s6_9]?=some x:=⟨_,List.getElem?_eq_getElem hlt⟩;rw [Q.drop_of hh7,Z81_q7];refine Q.condAT (Q.ltT hlt) ?_;refine Q.condO ?_ ?_
   ·refine Q.bindPO hh7 fun x15 hx_x15=>?_;refine Q.bindO rfl fun x16=>?_;refine Q.bindPO hh7 fun x17 hx_x17=>?_;refine Q.bindO rfl fun x18=>?_;refine Q.bindPO hh7 fun x19 hx_x19=>?_;refine Q.bindO rfl fun x20=>?_;refine Q.bindO rfl fun x21=>?_;refine Q.bindO rfl fun x22=>?_;refine Q.bindO rfl fun x23=>?_;all_goals exact ih7 _ _ ⟨by omega,by omega⟩
   all_goals exact hend n7 s5_8 s6_9
  rw [List.drop_of_length_le (by omega),Z81_q7];refine Q.condAF (Q.ltF hlt) ?_;exact hend n7 s5_8 s6_9
def Z81_qn:Nat->(Sl TSel)->Int->Option Int
 | 0,_,_=>none
 | n+1,a0,a1=>Option.bind (Z81_q7 a1 (Z81_qn n) a0.l (0:Int)) fun s5_8=>on (s5_8) fun s5_4=>some s5_4
theorem Z81_qall:∀n:Nat,Z81_n n=Z81_qn n:=by
 intro n;induction n with
 | zero=>exact(by funext a0 a1; first|rfl|(rw [Z81_n,Z81_qn]))
 | succ n ih =>
  funext a0 a1
  refine Eq.trans ?_ (Q.some_bind _);rw [Z81_n,Z81_qn];try rw [ih]
  refine Q.wrapOO fun Kb7 hKb7=>?_;refine Z81_l7_qe  Kb7 ?_ _ _ _ ⟨Nat.succ_pos _,by omega⟩;intro n7 s5_8 s6_9;refine Eq.trans ?_ (hKb7 _).symm;refine Q.wrapPO fun Kj3 hKj3=>?_;have hj3:∀(s5_4:Int),Z81_j3  s5_4=Kj3 s5_4:=by
   intro s5_4;refine Eq.trans ?_ (hKj3 _).symm;unfold Z81_j3;all_goals rfl
  all_goals exact hj3 _
def Z81_q (a0:(Sl TSel)) (a1:Int):Option Int:=Z81_qn F0 a0 a1
theorem Z81_eq (a0:(Sl TSel)) (a1:Int):Z81 a0 a1=Z81_q a0 a1:=by
 unfold Z81 Z81_q; rw [(Z81_qall F0)]
def Z78_q32 :List TOp->Int->Option (Int ⊕ Bool)
 | [],s3_33=>some (Sum.inl s3_33)
 | h32::r32,s3_33=>on (h32) fun x42=>(Z82_q x42.FSels (26:Int)).bind fun x43=>on (bif !x43 then h32 else TOp.zero) fun x44=>bif (x43||(decide ((30:Int)<((x44.FVars.l.length:Nat):Int)))) then(some (Sum.inr true)) else(on (h32) fun x47=>(Z81_q x47.FSels (300:Int)).bind fun x48=>(addC s3_33 x48).bind fun x49=>Z78_q32  (r32) x49)
theorem Z78_l32_qe {a0:TQuery}  (Kb32:(Int ⊕ Bool)->Option Bool) (hend:∀(n32:Nat) (s3_33:Int) (s4_34:Nat),Z78_j8 a0  s3_33=Kb32 (Sum.inl s3_33)) (hret:∀e:Bool,some e=Kb32 (Sum.inr e)):∀(n32:Nat) (s3_33:Int) (s4_34:Nat),(0<n32/\a0.FOps.l.length<s4_34+n32)->Z78_l32 a0 n32 s3_33 s4_34=Option.bind (Z78_q32  (a0.FOps.l.drop s4_34) s3_33) Kb32:=by
 intro n32;induction n32 with
 | zero=>intro s3_33 s4_34 hn; exact absurd hn.1 (by omega)
 | succ n32 ih32 =>
  intro s3_33 s4_34 hn;rw [Z78_l32];by_cases hlt:s4_34<a0.FOps.l.length
  ·obtain⟨h32,hh32⟩:∃x,a0.FOps.l[s4_34]?=some x:=⟨_,List.getElem?_eq_getElem hlt⟩;rw [Q.drop_of hh32,Z78_q32];refine Q.condT (Q.ltT hlt) ?_;refine Q.bindPO hh32 fun x42 hx_x42=>?_;refine Q.bindO (Z82_eq _ _) fun x43=>?_;refine Q.guardPO hh32 fun x44 hx_x44=>?_;refine Q.condO ?_ ?_
   ·all_goals exact hret _
   refine Q.bindPO hh32 fun x47 hx_x47=>?_;refine Q.bindO (Z81_eq _ _) fun x48=>?_;refine Q.bindO rfl fun x49=>?_;all_goals exact ih32 _ _ ⟨by omega,by omega⟩
  rw [List.drop_of_length_le (by omega),Z78_q32];refine Q.condF (Q.ltF hlt) ?_;exact hend n32 s3_33 s4_34
def Z78_q14 :List TFrag->Int->Option (Int ⊕ Bool)
 | [],s3_15=>some (Sum.inl s3_15)
 | h14::r14,s3_15=>on (h14) fun x24=>(Z82_q x24.FSels (26:Int)).bind fun x25=>bif x25 then(some (Sum.inr true)) else(on (h14) fun x28=>(Z81_q x28.FSels (300:Int)).bind fun x29=>(addC s3_15 x29).bind fun x30=>Z78_q14  (r14) x30)
theorem Z78_l14_qe {a0:TQuery}  (Kb14:(Int ⊕ Bool)->Option Bool) (hend:∀(n14:Nat) (s3_15:Int) (s5_16:Nat),Z78_j10   s3_15=Kb14 (Sum.inl s3_15)) (hret:∀e:Bool,some e=Kb14 (Sum.inr e)):∀(n14:Nat) (s3_15:Int) (s5_16:Nat),(0<n14/\a0.FFrags.l.length<s5_16+n14)->Z78_l14 a0 n14 s3_15 s5_16=Option.bind (Z78_q14  (a0.FFrags.l.drop s5_16) s3_15) Kb14:=by
 intro n14;induction n14 with
 | zero=>intro s3_15 s5_16 hn; exact absurd hn.1 (by omega)
 | succ n14 ih14 =>
  intro s3_15 s5_16 hn;rw [Z78_l14];by_cases hlt:s5_16<a0.FFrags.l.length
  ·obtain⟨h14,hh14⟩:∃x,a0.FFrags.l[s5_16]?=some x:=⟨_,List.getElem?_eq_getElem hlt⟩;rw [Q.drop_of hh14,Z78_q14];refine Q.condT (Q.ltT hlt) ?_;refine Q.bindPO hh14 fun x24 hx_x24=>?_;refine Q.bindO (Z82_eq _ _) fun x25=>?_;refine Q.condO ?_ ?_
   ·all_goals exact hret _
   refine Q.bindPO hh14 fun x28 hx_x28=>?_;refine Q.bindO (Z81_eq _ _) fun x29=>?_;refine Q.bindO rfl fun x30=>?_;all_goals exact ih14 _ _ ⟨by omega,by omega⟩
  rw [List.drop_of_length_le (by omega),Z78_q14];refine Q.condF (Q.ltF hlt) ?_;exact hend n14 s3_15 s5_16
def Z78_q (a0:TQuery):Option Bool:=bif ((decide ((8:Int)<((a0.FOps.l.length:Nat):Int)))||(decide ((12:Int)<((a0.FFrags.l.length:Nat):Int)))) then(some true) else(Option.bind (Z78_q32  a0.FOps.l (0:Int)) fun o32=>match o32 with|Sum.inl s3_33=>(on (s3_33) fun s3_9=>Option.bind (Z78_q14  a0.FFrags.l s3_9) fun o14=>match o14 with|Sum.inl s3_15=>(on (s3_15) fun s3_11=>some (decide ((300:Int)<s3_11)))|Sum.inr e14=>(some e14))|Sum.inr e32=>(some e32))
theorem Z78_eq (a0:TQuery):Z78 a0=Z78_q a0:=by
 unfold Z78 Z78_q;refine Eq.trans ?_ (Q.some_bind _);refine Q.condO ?_ ?_
 ·all_goals rfl
 refine Q.wrapOO fun Kb32 hKb32=>?_;refine Z78_l32_qe  Kb32 ?_ ?_ _ _ _ ⟨Nat.succ_pos _,by omega⟩
 ·intro n32 s3_33 s4_34;refine Eq.trans ?_ (hKb32 _).symm;try dsimp only
  refine Q.wrapPO fun Kj8 hKj8=>?_;have hj8:∀(s3_9:Int),Z78_j8 a0 s3_9=Kj8 s3_9:=by
   intro s3_9;refine Eq.trans ?_ (hKj8 _).symm;unfold Z78_j8;refine Q.wrapOO fun Kb14 hKb14=>?_;refine Z78_l14_qe  Kb14 ?_ ?_ _ _ _ ⟨Nat.succ_pos _,by omega⟩
   ·intro n14 s3_15 s5_16;refine Eq.trans ?_ (hKb14 _).symm;try dsimp only
    refine Q.wrapPO fun Kj10 hKj10=>?_;have hj10:∀(s3_11:Int),Z78_j10  s3_11=Kj10 s3_11:=by
     intro s3_11;refine Eq.trans ?_ (hKj10 _).symm;unfold Z78_j10;all_goals rfl
    all_goals exact hj10 _
   intro e14;refine Eq.trans ?_ (hKb14 _).symm;try dsimp only
   all_goals rfl
  all_goals exact hj8 _
 intro e32;refine Eq.trans ?_ (hKb32 _).symm;try dsimp only
 all_goals rfl
def Z19_q (a0:Int):Bool:=((((decide ((65:Int)<=a0))&&(decide (a0<=(90:Int))))||((decide ((97:Int)<=a0))&&(decide (a0<=(122:Int)))))||(decide (a0=(95:Int))))
theorem Z19_eq (a0:Int):Z19 a0=some (Z19_q a0):=by
 unfold Z19 Z19_q;all_goals rfl
def Z18_q (a0:Int):Bool:=((decide ((48:Int)<=a0))&&(decide (a0<=(57:Int))))
theorem Z18_eq (a0:Int):Z18 a0=some (Z18_q a0):=by
 unfold Z18 Z18_q;all_goals rfl
def Z16_q10 :List UInt8->Nat->Unit ⊕ Bool
 | [],s3_11=>Sum.inl ()
 | h10::r10,s3_11=>on (h10) fun x18=>on (Z19_q ((x18.toNat:Nat):Int)) fun x19=>on (bif ((!x19)&&!(decide (((s3_11:Nat):Int)=(0:Int)))) then h10 else(0:UInt8)) fun x20=>on (bif ((!x19)&&!(decide (((s3_11:Nat):Int)=(0:Int)))) then Z18_q ((x20.toNat:Nat):Int) else false) fun x21=>bif ((!x19)&&((decide (((s3_11:Nat):Int)=(0:Int)))||(!x21))) then(Sum.inr false) else(Z16_q10  (r10) (s3_11+1) )
theorem Z16_l10_qe {a0:Bs}  (Kb10:(Unit ⊕ Bool)->Option Bool) (hend:∀(n10:Nat) (s3_11:Nat),Z16_j7   =Kb10 (Sum.inl ())) (hret:∀e:Bool,some e=Kb10 (Sum.inr e)):∀(n10:Nat) (s3_11:Nat),(0<n10/\a0.length<s3_11+n10)->Z16_l10 a0 n10 s3_11=Kb10 (Z16_q10  (a0.drop s3_11) s3_11 ):=by
 intro n10;induction n10 with
 | zero=>intro s3_11 hn; exact absurd hn.1 (by omega)
 | succ n10 ih10 =>
  intro s3_11 hn;rw [Z16_l10];by_cases hlt:s3_11<a0.length
  ·obtain⟨h10,hh10⟩:∃x,a0[s3_11]?=some x:=⟨_,List.getElem?_eq_getElem hlt⟩;rw [Q.drop_of hh10,Z16_q10];refine Q.condT (Q.ltT hlt) ?_;refine Q.bindP hh10 fun x18 hx_x18=>?_;refine Q.bindP (Z19_eq _) fun x19 hx_x19=>?_;refine Q.guardP hh10 fun x20 hx_x20=>?_;refine Q.guardP (Z18_eq _) fun x21 hx_x21=>?_;refine Q.condP ?_ ?_
   ·all_goals exact hret _
   all_goals exact ih10 _ ⟨by omega,by omega⟩
  rw [List.drop_of_length_le (by omega),Z16_q10];refine Q.condF (Q.ltF hlt) ?_;exact hend n10 s3_11
def Z16_q (a0:Bs):Bool:=bif ((decide (((a0.length:Nat):Int)<(1:Int)))||(decide ((64:Int)<((a0.length:Nat):Int)))) then(false) else(on (Z16_q10  a0 0 ) fun o10=>match o10 with|Sum.inl _=>(on (()) fun _=>true)|Sum.inr e10=>(e10))
theorem Z16_eq (a0:Bs):Z16 a0=some (Z16_q a0):=by
 unfold Z16 Z16_q;refine Q.condP ?_ ?_
 ·all_goals rfl
 refine Q.wrapPP fun Kb10 hKb10=>?_;refine Z16_l10_qe  Kb10 ?_ ?_ _ _ ⟨Nat.succ_pos _,by omega⟩
 ·intro n10 s3_11;refine Eq.trans ?_ (hKb10 _).symm;try dsimp only
  refine Q.wrapPP fun Kj7 hKj7=>?_;have hj7:Z16_j7  =Kj7 ():=by
   refine Eq.trans ?_ (hKj7 _).symm;unfold Z16_j7;all_goals rfl
  all_goals exact hj7
 intro e10;refine Eq.trans ?_ (hKb10 _).symm;try dsimp only
 all_goals rfl
def Z30_q10 (a0:TRef):List Int->Nat->Option (Unit ⊕ Bool)
 | [],s3_11=>some (Sum.inl ())
 | h10::r10,s3_11=>on (h10) fun x19=>on (bif (!decide (x19=(1:Int))) then h10 else(0:Int)) fun x20=>bif ((!decide (x19=(1:Int)))&&(!decide (x20=(2:Int)))) then(some (Sum.inr false)) else(on (bif (decide ((0:Int)<((s3_11:Nat):Int))) then h10 else(0:Int)) fun x24=>guardO (((decide ((0:Int)<((s3_11:Nat):Int)))&&(decide (x24=(1:Int))))) (subC ((s3_11:Nat):Int) (1:Int)) (0:Int) fun x25=>guardO (((decide ((0:Int)<((s3_11:Nat):Int)))&&(decide (x24=(1:Int))))) (idxC a0.FWraps.l x25) (0:Int) fun x26=>bif (((decide ((0:Int)<((s3_11:Nat):Int)))&&(decide (x24=(1:Int))))&&(decide (x26=(1:Int)))) then(some (Sum.inr false)) else(Z30_q10 a0 (r10) (s3_11+1) ))
theorem Z30_l10_qe {a0:TRef}  (Kb10:(Unit ⊕ Bool)->Option Bool) (hend:∀(n10:Nat) (s3_11:Nat),Z30_j7   =Kb10 (Sum.inl ())) (hret:∀e:Bool,some e=Kb10 (Sum.inr e)):∀(n10:Nat) (s3_11:Nat),(0<n10/\a0.FWraps.l.length<s3_11+n10)->Z30_l10 a0 n10 s3_11=Option.bind (Z30_q10 a0 (a0.FWraps.l.drop s3_11) s3_11 ) Kb10:=by
 intro n10;induction n10 with
 | zero=>intro s3_11 hn; exact absurd hn.1 (by omega)
 | succ n10 ih10 =>
  intro s3_11 hn;rw [Z30_l10];by_cases hlt:s3_11<a0.FWraps.l.length
  ·obtain⟨h10,hh10⟩:∃x,a0.FWraps.l[s3_11]?=some x:=⟨_,List.getElem?_eq_getElem hlt⟩;rw [Q.drop_of hh10,Z30_q10];refine Q.condT (Q.ltT hlt) ?_;refine Q.bindPO hh10 fun x19 hx_x19=>?_;refine Q.guardPO hh10 fun x20 hx_x20=>?_;refine Q.condO ?_ ?_
   ·all_goals exact hret _
   refine Q.guardPO hh10 fun x24 hx_x24=>?_;refine Q.guardOO rfl fun x25=>?_;refine Q.guardOO rfl fun x26=>?_;refine Q.condO ?_ ?_
   ·all_goals exact hret _
   all_goals exact ih10 _ ⟨by omega,by omega⟩
  rw [List.drop_of_length_le (by omega),Z30_q10];refine Q.condF (Q.ltF hlt) ?_;exact hend n10 s3_11
def Z30_q (a0:TRef):Option Bool:=on (Z16_q a0.FName) fun x4=>bif ((!x4)||(decide ((24:Int)<((a0.FWraps.l.length:Nat):Int)))) then(some false) else(Option.bind (Z30_q10 a0 a0.FWraps.l 0 ) fun o10=>match o10 with|Sum.inl _=>(on (()) fun _=>some true)|Sum.inr e10=>(some e10))
theorem Z30_eq (a0:TRef):Z30 a0=Z30_q a0:=by
 unfold Z30 Z30_q;refine Eq.trans ?_ (Q.some_bind _);refine Q.bindPO (Z16_eq _) fun x4 hx_x4=>?_;refine Q.condO ?_ ?_
 ·all_goals rfl
 refine Q.wrapOO fun Kb10 hKb10=>?_;refine Z30_l10_qe  Kb10 ?_ ?_ _ _ ⟨Nat.succ_pos _,by omega⟩
 ·intro n10 s3_11;refine Eq.trans ?_ (hKb10 _).symm;try dsimp only
  refine Q.wrapPO fun Kj7 hKj7=>?_;have hj7:Z30_j7  =Kj7 ():=by
   refine Eq.trans ?_ (hKj7 _).symm;unfold Z30_j7;all_goals rfl
  all_goals exact hj7
 intro e10;refine Eq.trans ?_ (hKb10 _).symm;try dsimp only
 all_goals rfl
def Z22_q7 (k_rec_99:TValue->Option Int):List TValue->Int->Option (Int)
 | [],s3_8=>some s3_8
 | h7::r7,s3_8=>on (h7) fun x15=>(k_rec_99 x15).bind fun x16=>(addC s3_8 x16).bind fun x17=>Z22_q7 k_rec_99 (r7) x17
theorem Z22_l7_qe {a0:TValue}{k_rec_99:TValue->Option Int}  (Kb7:(Int)->Option Int) (hend:∀(n7:Nat) (s3_8:Int) (s4_9:Nat),Z22_j3   s3_8=Kb7 s3_8):∀(n7:Nat) (s3_8:Int) (s4_9:Nat),(0<n7/\a0.FItems.l.length<s4_9+n7)->Z22_l7 a0 k_rec_99 n7 s3_8 s4_9=Option.bind (Z22_q7 k_rec_99 (a0.FItems.l.drop s4_9) s3_8) Kb7:=by
 intro n7;induction n7 with
 | zero=>intro s3_8 s4_9 hn; exact absurd hn.1 (by omega)
 | succ n7 ih7 =>
  intro s3_8 s4_9 hn;rw [Z22_l7];by_cases hlt:s4_9<a0.FItems.l.length
  ·obtain⟨h7,hh7⟩:∃x,a0.FItems.l[s4_9]?=some x:=⟨_,List.getElem?_eq_getElem hlt⟩;rw [Q.drop_of hh7,Z22_q7];refine Q.condT (Q.ltT hlt) ?_;refine Q.bindPO hh7 fun x15 hx_x15=>?_;refine Q.bindO rfl fun x16=>?_;refine Q.bindO rfl fun x17=>?_;all_goals exact ih7 _ _ ⟨by omega,by omega⟩
  rw [List.drop_of_length_le (by omega),Z22_q7];refine Q.condF (Q.ltF hlt) ?_;exact hend n7 s3_8 s4_9
def Z22_qn:Nat->TValue->Option Int
 | 0,_=>none
 | n+1,a0=>Option.bind (Z22_q7 (Z22_qn n) a0.FItems.l (1:Int)) fun s3_8=>on (s3_8) fun s3_4=>some s3_4
theorem Z22_qall:∀n:Nat,Z22_n n=Z22_qn n:=by
 intro n;induction n with
 | zero=>exact(by funext a0; first|rfl|(rw [Z22_n,Z22_qn]))
 | succ n ih =>
  funext a0
  refine Eq.trans ?_ (Q.some_bind _);rw [Z22_n,Z22_qn];try rw [ih]
  refine Q.wrapOO fun Kb7 hKb7=>?_;refine Z22_l7_qe  Kb7 ?_ _ _ _ ⟨Nat.succ_pos _,by omega⟩;intro n7 s3_8 s4_9;refine Eq.trans ?_ (hKb7 _).symm;refine Q.wrapPO fun Kj3 hKj3=>?_;have hj3:∀(s3_4:Int),Z22_j3  s3_4=Kj3 s3_4:=by
   intro s3_4;refine Eq.trans ?_ (hKj3 _).symm;unfold Z22_j3;all_goals rfl
  all_goals exact hj3 _
def Z22_q (a0:TValue):Option Int:=Z22_qn F0 a0
theorem Z22_eq (a0:TValue):Z22 a0=Z22_q a0:=by
 unfold Z22 Z22_q; rw [(Z22_qall F0)]
def Z20_q8 (k_rec_100:TValue->Option Int):List TValue->Int->Option (Int)
 | [],s3_9=>some s3_9
 | h8::r8,s3_9=>on (h8) fun x16=>(k_rec_100 x16).bind fun x17=>Z20_q8 k_rec_100 (r8) (if x17>s3_9 then x17 else s3_9)
theorem Z20_l8_qe {a0:TValue}{k_rec_100:TValue->Option Int}  (Kb8:(Int)->Option Int) (hend:∀(n8:Nat) (s3_9:Int) (s4_10:Nat),Z20_j3   s3_9=Kb8 s3_9):∀(n8:Nat) (s3_9:Int) (s4_10:Nat),(0<n8/\a0.FItems.l.length<s4_10+n8)->Z20_l8 a0 k_rec_100 n8 s3_9 s4_10=Option.bind (Z20_q8 k_rec_100 (a0.FItems.l.drop s4_10) s3_9) Kb8:=by
 intro n8;induction n8 with
 | zero=>intro s3_9 s4_10 hn; exact absurd hn.1 (by omega)
 | succ n8 ih8 =>
  intro s3_9 s4_10 hn;rw [Z20_l8];by_cases hlt:s4_10<a0.FItems.l.length
  ·obtain⟨h8,hh8⟩:∃x,a0.FItems.l[s4_10]?=some x:=⟨_,List.getElem?_eq_getElem hlt⟩;rw [Q.drop_of hh8,Z20_q8];refine Q.condT (Q.ltT hlt) ?_;refine Q.bindPO hh8 fun x16 hx_x16=>?_;refine Q.bindO rfl fun x17=>?_;all_goals exact ih8 _ _ ⟨by omega,by omega⟩
  rw [List.drop_of_length_le (by omega),Z20_q8];refine Q.condF (Q.ltF hlt) ?_;exact hend n8 s3_9 s4_10
def Z20_qn:Nat->TValue->Option Int
 | 0,_=>none
 | n+1,a0=>Option.bind (Z20_q8 (Z20_qn n) a0.FItems.l (0:Int)) fun s3_9=>on (s3_9) fun s3_4=>(addC s3_4 (1:Int)).bind fun x6=>some x6
theorem Z20_qall:∀n:Nat,Z20_n n=Z20_qn n:=by
 intro n;induction n with
 | zero=>exact(by funext a0; first|rfl|(rw [Z20_n,Z20_qn]))
 | succ n ih =>
  funext a0
  refine Eq.trans ?_ (Q.some_bind _);rw [Z20_n,Z20_qn];try rw [ih]
  refine Q.wrapOO fun Kb8 hKb8=>?_;refine Z20_l8_qe  Kb8 ?_ _ _ _ ⟨Nat.succ_pos _,by omega⟩;intro n8 s3_9 s4_10;refine Eq.trans ?_ (hKb8 _).symm;refine Q.wrapPO fun Kj3 hKj3=>?_;have hj3:∀(s3_4:Int),Z20_j3  s3_4=Kj3 s3_4:=by
   intro s3_4;refine Eq.trans ?_ (hKj3 _).symm;unfold Z20_j3;refine Q.bindO rfl fun x6=>?_;all_goals rfl
  all_goals exact hj3 _
def Z20_q (a0:TValue):Option Int:=Z20_qn F0 a0
theorem Z20_eq (a0:TValue):Z20 a0=Z20_q a0:=by
 unfold Z20 Z20_q; rw [(Z20_qall F0)]
def Z24_q13 (a0:(Sl Bs)) (h5:Bs):Nat->Nat->Option (Unit ⊕ Bool)
 | 0,s4_14=>some (Sum.inl ())
 | r13+1,s4_14=>on (h5) fun x20=>(a0.l[s4_14]?).bind fun x21=>bif ((x20==x21)) then(some (Sum.inr true)) else(Z24_q13 a0 h5 (r13) (s4_14+1) )
theorem Z24_l13_qe {a0:(Sl Bs)}{s3_6:Nat}{k_next_5:Nat->Option Bool}{h5:Bs}(hh5:a0.l[s3_6]?=some h5) (Kb13:(Unit ⊕ Bool)->Option Bool) (hend:∀(n13:Nat) (s4_14:Nat),Z24_j11 s3_6 k_next_5 =Kb13 (Sum.inl ())) (hret:∀e:Bool,some e=Kb13 (Sum.inr e)):∀(n13:Nat) (s4_14:Nat),(0<n13/\s3_6<s4_14+n13)->Z24_l13 a0 s3_6 k_next_5 n13 s4_14=Option.bind (Z24_q13 a0 h5 (s3_6-s4_14) s4_14 ) Kb13:=by
 intro n13;induction n13 with
 | zero=>intro s4_14 hn; exact absurd hn.1 (by omega)
 | succ n13 ih13 =>
  intro s4_14 hn;rw [Z24_l13];by_cases hlt:s4_14<s3_6
  ·rw [show s3_6-s4_14=(s3_6-(s4_14+1))+1 by omega,Z24_q13];refine Q.condT (Q.ltT hlt) ?_;refine Q.bindPO hh5 fun x20 hx_x20=>?_;refine Q.bindO rfl fun x21=>?_;refine Q.condO ?_ ?_
   ·all_goals exact hret _
   all_goals exact ih13 _ ⟨by omega,by omega⟩
  rw [show s3_6-s4_14=0 by omega,Z24_q13];refine Q.condF (Q.ltF hlt) ?_;exact hend n13 s4_14
def Z24_q5 (a0:(Sl Bs)):List Bs->Nat->Option (Unit ⊕ Bool)
 | [],s3_6=>some (Sum.inl ())
 | h5::r5,s3_6=>Option.bind (Z24_q13 a0 h5 s3_6 0 ) fun o13=>match o13 with|Sum.inl _=>(on (()) fun _=>Z24_q5 a0 (r5) (s3_6+1) )|Sum.inr e13=>(some (Sum.inr e13))
theorem Z24_l5_qe {a0:(Sl Bs)}  (Kb5:(Unit ⊕ Bool)->Option Bool) (hend:∀(n5:Nat) (s3_6:Nat),Z24_j2   =Kb5 (Sum.inl ())) (hret:∀e:Bool,some e=Kb5 (Sum.inr e)):∀(n5:Nat) (s3_6:Nat),(0<n5/\a0.l.length<s3_6+n5)->Z24_l5 a0 n5 s3_6=Option.bind (Z24_q5 a0 (a0.l.drop s3_6) s3_6 ) Kb5:=by
 intro n5;induction n5 with
 | zero=>intro s3_6 hn; exact absurd hn.1 (by omega)
 | succ n5 ih5 =>
  intro s3_6 hn;rw [Z24_l5];by_cases hlt:s3_6<a0.l.length
  ·obtain⟨h5,hh5⟩:∃x,a0.l[s3_6]?=some x:=⟨_,List.getElem?_eq_getElem hlt⟩;rw [Q.drop_of hh5,Z24_q5];refine Q.condT (Q.ltT hlt) ?_;refine Q.wrapOO fun Kb13 hKb13=>?_;refine Z24_l13_qe hh5 Kb13 ?_ ?_ _ _ ⟨Nat.succ_pos _,by omega⟩
   ·intro n13 s4_14;refine Eq.trans ?_ (hKb13 _).symm;try dsimp only
    refine Q.wrapPO fun Kj11 hKj11=>?_;have hj11:Z24_j11 s3_6 (Z24_l5 a0 n5) =Kj11 ():=by
     refine Eq.trans ?_ (hKj11 _).symm;unfold Z24_j11;all_goals exact ih5 _ ⟨by omega,by omega⟩
    all_goals exact hj11
   intro e13;refine Eq.trans ?_ (hKb13 _).symm;try dsimp only
   all_goals exact hret _
  rw [List.drop_of_length_le (by omega),Z24_q5];refine Q.condF (Q.ltF hlt) ?_;exact hend n5 s3_6
def Z24_q (a0:(Sl Bs)):Option Bool:=Option.bind (Z24_q5 a0 a0.l 0 ) fun o5=>match o5 with|Sum.inl _=>(on (()) fun _=>some false)|Sum.inr e5=>(some e5)
theorem Z24_eq (a0:(Sl Bs)):Z24 a0=Z24_q a0:=by
 unfold Z24 Z24_q;refine Eq.trans ?_ (Q.some_bind _);refine Q.wrapOO fun Kb5 hKb5=>?_;refine Z24_l5_qe  Kb5 ?_ ?_ _ _ ⟨Nat.succ_pos _,by omega⟩
 ·intro n5 s3_6;refine Eq.trans ?_ (hKb5 _).symm;try dsimp only
  refine Q.wrapPO fun Kj2 hKj2=>?_;have hj2:Z24_j2  =Kj2 ():=by
   refine Eq.trans ?_ (hKj2 _).symm;unfold Z24_j2;all_goals rfl
  all_goals exact hj2
 intro e5;refine Eq.trans ?_ (hKb5 _).symm;try dsimp only
 all_goals rfl
def Z23_q (a0:TValue) (a1:Bool):Option Bool:=bif (decide (a0.FKind=(0:Int))) then(some ((((decide (a0.FInt=(0:Int)))&&((a0.FText==([]:Bs))))&&(decide (((a0.FItems.l.length:Nat):Int)=(0:Int))))&&(decide (((a0.FKeys.l.length:Nat):Int)=(0:Int))))) else(bif (decide (a0.FKind=(1:Int))) then(some (((((decide (a0.FInt=(0:Int)))||(decide (a0.FInt=(1:Int))))&&((a0.FText==([]:Bs))))&&(decide (((a0.FItems.l.length:Nat):Int)=(0:Int))))&&(decide (((a0.FKeys.l.length:Nat):Int)=(0:Int))))) else(bif (decide (a0.FKind=(2:Int))) then(some ((((a0.FText==([]:Bs)))&&(decide (((a0.FItems.l.length:Nat):Int)=(0:Int))))&&(decide (((a0.FKeys.l.length:Nat):Int)=(0:Int))))) else(bif (decide (a0.FKind=(3:Int))) then(some (((decide (a0.FInt=(0:Int)))&&(decide (((a0.FItems.l.length:Nat):Int)=(0:Int))))&&(decide (((a0.FKeys.l.length:Nat):Int)=(0:Int))))) else(bif (decide (a0.FKind=(4:Int))) then(on (bif (((decide (a0.FInt=(0:Int)))&&(decide (((a0.FItems.l.length:Nat):Int)=(0:Int))))&&(decide (((a0.FKeys.l.length:Nat):Int)=(0:Int)))) then Z16_q a0.FText else false) fun x19=>some (((((((decide (a0.FInt=(0:Int)))&&(decide (((a0.FItems.l.length:Nat):Int)=(0:Int))))&&(decide (((a0.FKeys.l.length:Nat):Int)=(0:Int))))&&x19)&&(!(a0.FText==([116,114,117,101]:Bs))))&&(!(a0.FText==([102,97,108,115,101]:Bs))))&&(!(a0.FText==([110,117,108,108]:Bs))))) else(bif (decide (a0.FKind=(5:Int))) then(some (((decide (a0.FInt=(0:Int)))&&((a0.FText==([]:Bs))))&&(decide (((a0.FKeys.l.length:Nat):Int)=(0:Int))))) else(bif (decide (a0.FKind=(6:Int))) then(guardO ((((decide (a0.FInt=(0:Int)))&&((a0.FText==([]:Bs))))&&(decide (((a0.FKeys.l.length:Nat):Int)=((a0.FItems.l.length:Nat):Int))))) (Z24_q a0.FKeys) false fun x26=>some ((((decide (a0.FInt=(0:Int)))&&((a0.FText==([]:Bs))))&&(decide (((a0.FKeys.l.length:Nat):Int)=((a0.FItems.l.length:Nat):Int))))&&(!x26))) else(bif (decide (a0.FKind=(7:Int))) then(on (bif (((a1&&(decide (a0.FInt=(0:Int))))&&(decide (((a0.FItems.l.length:Nat):Int)=(0:Int))))&&(decide (((a0.FKeys.l.length:Nat):Int)=(0:Int)))) then Z16_q a0.FText else false) fun x30=>some ((((a1&&(decide (a0.FInt=(0:Int))))&&(decide (((a0.FItems.l.length:Nat):Int)=(0:Int))))&&(decide (((a0.FKeys.l.length:Nat):Int)=(0:Int))))&&x30)) else(some false))))))))
theorem Z23_eq (a0:TValue) (a1:Bool):Z23 a0 a1=Z23_q a0 a1:=by
 unfold Z23 Z23_q;refine Eq.trans ?_ (Q.some_bind _);refine Q.condO ?_ ?_
 ·all_goals rfl
 refine Q.condO ?_ ?_
 ·all_goals rfl
 refine Q.condO ?_ ?_
 ·all_goals rfl
 refine Q.condO ?_ ?_
 ·all_goals rfl
 refine Q.condO ?_ ?_
 ·refine Q.guardPO (Z16_eq _) fun x19 hx_x19=>?_;all_goals rfl
 refine Q.condO ?_ ?_
 ·all_goals rfl
 refine Q.condO ?_ ?_
 ·refine Q.guardOO (Z24_eq _) fun x26=>?_;all_goals rfl
 refine Q.condO ?_ ?_
 ·refine Q.guardPO (Z16_eq _) fun x30 hx_x30=>?_;all_goals rfl
 all_goals rfl
def Z25_q24 (a1:Bool):List Bs->Unit ⊕ Bool
 | []=>Sum.inl ()
 | h24::r24=>on (bif a1 then h24 else([]:Bs)) fun x32=>on (bif a1 then Z16_q x32 else false) fun x33=>bif (a1&&(!x33)) then(Sum.inr false) else(Z25_q24 a1 (r24) )
theorem Z25_l24_qe {a0:TValue}{a1:Bool}{k_rec_101:TValue->Bool->Option Bool}  (Kb24:(Unit ⊕ Bool)->Option Bool) (hend:∀(n24:Nat) (s5_25:Nat),Z25_j7 a0 a1 k_rec_101 =Kb24 (Sum.inl ())) (hret:∀e:Bool,some e=Kb24 (Sum.inr e)):∀(n24:Nat) (s5_25:Nat),(0<n24/\a0.FKeys.l.length<s5_25+n24)->Z25_l24 a0 a1 k_rec_101 n24 s5_25=Kb24 (Z25_q24 a1 (a0.FKeys.l.drop s5_25) ):=by
 intro n24;induction n24 with
 | zero=>intro s5_25 hn; exact absurd hn.1 (by omega)
 | succ n24 ih24 =>
  intro s5_25 hn;rw [Z25_l24];by_cases hlt:s5_25<a0.FKeys.l.length
  ·obtain⟨h24,hh24⟩:∃x,a0.FKeys.l[s5_25]?=some x:=⟨_,List.getElem?_eq_getElem hlt⟩;rw [Q.drop_of hh24,Z25_q24];refine Q.condT (Q.ltT hlt) ?_;refine Q.guardP hh24 fun x32 hx_x32=>?_;refine Q.guardP (Z16_eq _) fun x33 hx_x33=>?_;refine Q.condP ?_ ?_
   ·all_goals exact hret _
   all_goals exact ih24 _ ⟨by omega,by omega⟩
  rw [List.drop_of_length_le (by omega),Z25_q24];refine Q.condF (Q.ltF hlt) ?_;exact hend n24 s5_25
def Z25_q11 (a1:Bool) (k_rec_101:TValue->Bool->Option Bool):List TValue->Option (Unit ⊕ Bool)
 | []=>some (Sum.inl ())
 | h11::r11=>on (h11) fun x19=>(k_rec_101 x19 a1).bind fun x20=>bif (!x20) then(some (Sum.inr false)) else(Z25_q11 a1 k_rec_101 (r11) )
theorem Z25_l11_qe {a0:TValue}{a1:Bool}{k_rec_101:TValue->Bool->Option Bool}  (Kb11:(Unit ⊕ Bool)->Option Bool) (hend:∀(n11:Nat) (s6_12:Nat),Z25_j8   =Kb11 (Sum.inl ())) (hret:∀e:Bool,some e=Kb11 (Sum.inr e)):∀(n11:Nat) (s6_12:Nat),(0<n11/\a0.FItems.l.length<s6_12+n11)->Z25_l11 a0 a1 k_rec_101 n11 s6_12=Option.bind (Z25_q11 a1 k_rec_101 (a0.FItems.l.drop s6_12) ) Kb11:=by
 intro n11;induction n11 with
 | zero=>intro s6_12 hn; exact absurd hn.1 (by omega)
 | succ n11 ih11 =>
  intro s6_12 hn;rw [Z25_l11];by_cases hlt:s6_12<a0.FItems.l.length
  ·obtain⟨h11,hh11⟩:∃x,a0.FItems.l[s6_12]?=some x:=⟨_,List.getElem?_eq_getElem hlt⟩;rw [Q.drop_of hh11,Z25_q11];refine Q.condT (Q.ltT hlt) ?_;refine Q.bindPO hh11 fun x19 hx_x19=>?_;refine Q.bindO rfl fun x20=>?_;refine Q.condO ?_ ?_
   ·all_goals exact hret _
   all_goals exact ih11 _ ⟨by omega,by omega⟩
  rw [List.drop_of_length_le (by omega),Z25_q11];refine Q.condF (Q.ltF hlt) ?_;exact hend n11 s6_12
def Z25_qn:Nat->TValue->Bool->Option Bool
 | 0,_,_=>none
 | n+1,a0,a1=>(Z23_q a0 a1).bind fun x4=>bif (!x4) then(some false) else(on (Z25_q24 a1 a0.FKeys.l ) fun o24=>match o24 with|Sum.inl _=>(on (()) fun _=>Option.bind (Z25_q11 a1 (Z25_qn n) a0.FItems.l ) fun o11=>match o11 with|Sum.inl _=>(on (()) fun _=>some true)|Sum.inr e11=>(some e11))|Sum.inr e24=>(some e24))
theorem Z25_qall:∀n:Nat,Z25_n n=Z25_qn n:=by
 intro n;induction n with
 | zero=>exact(by funext a0 a1; first|rfl|(rw [Z25_n,Z25_qn]))
 | succ n ih =>
  funext a0 a1
  refine Eq.trans ?_ (Q.some_bind _);rw [Z25_n,Z25_qn];try rw [ih]
  refine Q.bindO (Z23_eq _ _) fun x4=>?_;refine Q.condO ?_ ?_
  ·all_goals rfl
  refine Q.wrapPO fun Kb24 hKb24=>?_;refine Z25_l24_qe  Kb24 ?_ ?_ _ _ ⟨Nat.succ_pos _,by omega⟩
  ·intro n24 s5_25;refine Eq.trans ?_ (hKb24 _).symm;try dsimp only
   refine Q.wrapPO fun Kj7 hKj7=>?_;have hj7:Z25_j7 a0 a1 (Z25_qn n) =Kj7 ():=by
    refine Eq.trans ?_ (hKj7 _).symm;unfold Z25_j7;refine Q.wrapOO fun Kb11 hKb11=>?_;refine Z25_l11_qe  Kb11 ?_ ?_ _ _ ⟨Nat.succ_pos _,by omega⟩
    ·intro n11 s6_12;refine Eq.trans ?_ (hKb11 _).symm;try dsimp only
     refine Q.wrapPO fun Kj8 hKj8=>?_;have hj8:Z25_j8  =Kj8 ():=by
      refine Eq.trans ?_ (hKj8 _).symm;unfold Z25_j8;all_goals rfl
     all_goals exact hj8
    intro e11;refine Eq.trans ?_ (hKb11 _).symm;try dsimp only
    all_goals rfl
   all_goals exact hj7
  intro e24;refine Eq.trans ?_ (hKb24 _).symm;try dsimp only
  all_goals rfl
def Z25_q (a0:TValue) (a1:Bool):Option Bool:=Z25_qn F0 a0 a1
theorem Z25_eq (a0:TValue) (a1:Bool):Z25 a0 a1=Z25_q a0 a1:=by
 unfold Z25 Z25_q; rw [(Z25_qall F0)]
def Z21_q (a0:TValue):Option Bool:=(Z22_q a0).bind fun x3=>guardO ((decide (x3<=(4096:Int)))) (Z20_q a0) (0:Int) fun x4=>guardO (((decide (x3<=(4096:Int)))&&(decide (x4<=(24:Int))))) (Z25_q a0 true) false fun x5=>some (((decide (x3<=(4096:Int)))&&(decide (x4<=(24:Int))))&&x5)
theorem Z21_eq (a0:TValue):Z21 a0=Z21_q a0:=by
 unfold Z21 Z21_q;refine Eq.trans ?_ (Q.some_bind _);refine Q.bindO (Z22_eq _) fun x3=>?_;refine Q.guardOO (Z20_eq _) fun x4=>?_;refine Q.guardOO (Z25_eq _ _) fun x5=>?_;all_goals rfl
def Z36_q5 (k_rec_65:TValue->Option Bool):List TValue->Option (Unit ⊕ Bool)
 | []=>some (Sum.inl ())
 | h5::r5=>on (h5) fun x13=>(k_rec_65 x13).bind fun x14=>bif (!x14) then(some (Sum.inr false)) else(Z36_q5 k_rec_65 (r5) )
theorem Z36_l5_qe {a0:TValue}{k_rec_65:TValue->Option Bool}  (Kb5:(Unit ⊕ Bool)->Option Bool) (hend:∀(n5:Nat) (s3_6:Nat),Z36_j2 a0  =Kb5 (Sum.inl ())) (hret:∀e:Bool,some e=Kb5 (Sum.inr e)):∀(n5:Nat) (s3_6:Nat),(0<n5/\a0.FItems.l.length<s3_6+n5)->Z36_l5 a0 k_rec_65 n5 s3_6=Option.bind (Z36_q5 k_rec_65 (a0.FItems.l.drop s3_6) ) Kb5:=by
 intro n5;induction n5 with
 | zero=>intro s3_6 hn; exact absurd hn.1 (by omega)
 | succ n5 ih5 =>
  intro s3_6 hn;rw [Z36_l5];by_cases hlt:s3_6<a0.FItems.l.length
  ·obtain⟨h5,hh5⟩:∃x,a0.FItems.l[s3_6]?=some x:=⟨_,List.getElem?_eq_getElem hlt⟩;rw [Q.drop_of hh5,Z36_q5];refine Q.condT (Q.ltT hlt) ?_;refine Q.bindPO hh5 fun x13 hx_x13=>?_;refine Q.bindO rfl fun x14=>?_;refine Q.condO ?_ ?_
   ·all_goals exact hret _
   all_goals exact ih5 _ ⟨by omega,by omega⟩
  rw [List.drop_of_length_le (by omega),Z36_q5];refine Q.condF (Q.ltF hlt) ?_;exact hend n5 s3_6
def Z36_qn:Nat->TValue->Option Bool
 | 0,_=>none
 | n+1,a0=>Option.bind (Z36_q5 (Z36_qn n) a0.FItems.l ) fun o5=>match o5 with|Sum.inl _=>(on (()) fun _=>some (!decide (a0.FKind=(7:Int))))|Sum.inr e5=>(some e5)
theorem Z36_qall:∀n:Nat,Z36_n n=Z36_qn n:=by
 intro n;induction n with
 | zero=>exact(by funext a0; first|rfl|(rw [Z36_n,Z36_qn]))
 | succ n ih =>
  funext a0
  refine Eq.trans ?_ (Q.some_bind _);rw [Z36_n,Z36_qn];try rw [ih]
  refine Q.wrapOO fun Kb5 hKb5=>?_;refine Z36_l5_qe  Kb5 ?_ ?_ _ _ ⟨Nat.succ_pos _,by omega⟩
  ·intro n5 s3_6;refine Eq.trans ?_ (hKb5 _).symm;try dsimp only
   refine Q.wrapPO fun Kj2 hKj2=>?_;have hj2:Z36_j2 a0 =Kj2 ():=by
    refine Eq.trans ?_ (hKj2 _).symm;unfold Z36_j2;all_goals rfl
   all_goals exact hj2
  intro e5;refine Eq.trans ?_ (hKb5 _).symm;try dsimp only
  all_goals rfl
def Z36_q (a0:TValue):Option Bool:=Z36_qn F0 a0
theorem Z36_eq (a0:TValue):Z36 a0=Z36_q a0:=by
 unfold Z36 Z36_q; rw [(Z36_qall F0)]
def Z40_q6 :List TVar->Option (Unit ⊕ Bool)
 | []=>some (Sum.inl ())
 | h6::r6=>on (h6) fun x14=>on (Z16_q x14.FName) fun x17=>guardO (!(!x17)) (Z30_q x14.FType) false fun x18=>guardO (!((!x17)||(!x18))) (Z21_q x14.FDefault) false fun x19=>guardO (!(((!x17)||(!x18))||(!x19))) (Z36_q x14.FDefault) false fun x20=>bif ((((!x17)||(!x18))||(!x19))||(!x20)) then(some (Sum.inr false)) else(bif ((!x14.FHas)&&(!decide (x14.FDefault.FKind=(0:Int)))) then(some (Sum.inr false)) else(Z40_q6  (r6) ))
theorem Z40_l6_qe {a0:(Sl TVar)}  (Kb6:(Unit ⊕ Bool)->Option Bool) (hend:∀(n6:Nat) (s3_7:Nat),Z40_j2 a0  =Kb6 (Sum.inl ())) (hret:∀e:Bool,some e=Kb6 (Sum.inr e)):∀(n6:Nat) (s3_7:Nat),(0<n6/\a0.l.length<s3_7+n6)->Z40_l6 a0 n6 s3_7=Option.bind (Z40_q6  (a0.l.drop s3_7) ) Kb6:=by
 intro n6;induction n6 with
 | zero=>intro s3_7 hn; exact absurd hn.1 (by omega)
 | succ n6 ih6 =>
  intro s3_7 hn;rw [Z40_l6];by_cases hlt:s3_7<a0.l.length
  ·obtain⟨h6,hh6⟩:∃x,a0.l[s3_7]?=some x:=⟨_,List.getElem?_eq_getElem hlt⟩;rw [Q.drop_of hh6,Z40_q6];refine Q.condT (Q.ltT hlt) ?_;refine Q.bindPO hh6 fun x14 hx_x14=>?_;refine Q.bindPO (Z16_eq _) fun x17 hx_x17=>?_;refine Q.guardOO (Z30_eq _) fun x18=>?_;refine Q.guardOO (Z21_eq _) fun x19=>?_;refine Q.guardOO (Z36_eq _) fun x20=>?_;refine Q.condO ?_ ?_
   ·all_goals exact hret _
   refine Q.condO ?_ ?_
   ·all_goals exact hret _
   all_goals exact ih6 _ ⟨by omega,by omega⟩
  rw [List.drop_of_length_le (by omega),Z40_q6];refine Q.condF (Q.ltF hlt) ?_;exact hend n6 s3_7
def Z40_q (a0:(Sl TVar)):Option Bool:=Option.bind (Z40_q6  a0.l ) fun o6=>match o6 with|Sum.inl _=>(on (()) fun _=>some (decide (((a0.l.length:Nat):Int)<=(16:Int))))|Sum.inr e6=>(some e6)
theorem Z40_eq (a0:(Sl TVar)):Z40 a0=Z40_q a0:=by
 unfold Z40 Z40_q;refine Eq.trans ?_ (Q.some_bind _);refine Q.wrapOO fun Kb6 hKb6=>?_;refine Z40_l6_qe  Kb6 ?_ ?_ _ _ ⟨Nat.succ_pos _,by omega⟩
 ·intro n6 s3_7;refine Eq.trans ?_ (hKb6 _).symm;try dsimp only
  refine Q.wrapPO fun Kj2 hKj2=>?_;have hj2:Z40_j2 a0 =Kj2 ():=by
   refine Eq.trans ?_ (hKj2 _).symm;unfold Z40_j2;all_goals rfl
  all_goals exact hj2
 intro e6;refine Eq.trans ?_ (hKb6 _).symm;try dsimp only
 all_goals rfl
def Z39_q (a0:Bs):Bool:=on (Z16_q a0) fun x3=>(x3&&(!(a0==([111,110]:Bs))))
theorem Z39_eq (a0:Bs):Z39 a0=some (Z39_q a0):=by
 unfold Z39 Z39_q;refine Q.bindP (Z16_eq _) fun x3 hx_x3=>?_;all_goals rfl
def Z35_q6 :List TArg->Option (Unit ⊕ Bool)
 | []=>some (Sum.inl ())
 | h6::r6=>on (h6) fun x14=>on (Z16_q x14.FName) fun x15=>on (bif !(!x15) then h6 else TArg.zero) fun x16=>guardO (!(!x15)) (Z21_q x16.FValue) false fun x17=>bif ((!x15)||(!x17)) then(some (Sum.inr false)) else(Z35_q6  (r6) )
theorem Z35_l6_qe {a0:(Sl TArg)}  (Kb6:(Unit ⊕ Bool)->Option Bool) (hend:∀(n6:Nat) (s3_7:Nat),Z35_j2 a0  =Kb6 (Sum.inl ())) (hret:∀e:Bool,some e=Kb6 (Sum.inr e)):∀(n6:Nat) (s3_7:Nat),(0<n6/\a0.l.length<s3_7+n6)->Z35_l6 a0 n6 s3_7=Option.bind (Z35_q6  (a0.l.drop s3_7) ) Kb6:=by
 intro n6;induction n6 with
 | zero=>intro s3_7 hn; exact absurd hn.1 (by omega)
 | succ n6 ih6 =>
  intro s3_7 hn;rw [Z35_l6];by_cases hlt:s3_7<a0.l.length
  ·obtain⟨h6,hh6⟩:∃x,a0.l[s3_7]?=some x:=⟨_,List.getElem?_eq_getElem hlt⟩;rw [Q.drop_of hh6,Z35_q6];refine Q.condT (Q.ltT hlt) ?_;refine Q.bindPO hh6 fun x14 hx_x14=>?_;refine Q.bindPO (Z16_eq _) fun x15 hx_x15=>?_;refine Q.guardPO hh6 fun x16 hx_x16=>?_;refine Q.guardOO (Z21_eq _) fun x17=>?_;refine Q.condO ?_ ?_
   ·all_goals exact hret _
   all_goals exact ih6 _ ⟨by omega,by omega⟩
  rw [List.drop_of_length_le (by omega),Z35_q6];refine Q.condF (Q.ltF hlt) ?_;exact hend n6 s3_7
def Z35_q (a0:(Sl TArg)):Option Bool:=Option.bind (Z35_q6  a0.l ) fun o6=>match o6 with|Sum.inl _=>(on (()) fun _=>some (decide (((a0.l.length:Nat):Int)<=(16:Int))))|Sum.inr e6=>(some e6)
theorem Z35_eq (a0:(Sl TArg)):Z35 a0=Z35_q a0:=by
 unfold Z35 Z35_q;refine Eq.trans ?_ (Q.some_bind _);refine Q.wrapOO fun Kb6 hKb6=>?_;refine Z35_l6_qe  Kb6 ?_ ?_ _ _ ⟨Nat.succ_pos _,by omega⟩
 ·intro n6 s3_7;refine Eq.trans ?_ (hKb6 _).symm;try dsimp only
  refine Q.wrapPO fun Kj2 hKj2=>?_;have hj2:Z35_j2 a0 =Kj2 ():=by
   refine Eq.trans ?_ (hKj2 _).symm;unfold Z35_j2;all_goals rfl
  all_goals exact hj2
 intro e6;refine Eq.trans ?_ (hKb6 _).symm;try dsimp only
 all_goals rfl
def Z37_q6 :List TDir->Option (Unit ⊕ Bool)
 | []=>some (Sum.inl ())
 | h6::r6=>on (h6) fun x14=>on (Z16_q x14.FName) fun x15=>on (bif !(!x15) then h6 else TDir.zero) fun x16=>guardO (!(!x15)) (Z35_q x16.FArgs) false fun x17=>bif ((!x15)||(!x17)) then(some (Sum.inr false)) else(Z37_q6  (r6) )
theorem Z37_l6_qe {a0:(Sl TDir)}  (Kb6:(Unit ⊕ Bool)->Option Bool) (hend:∀(n6:Nat) (s3_7:Nat),Z37_j2 a0  =Kb6 (Sum.inl ())) (hret:∀e:Bool,some e=Kb6 (Sum.inr e)):∀(n6:Nat) (s3_7:Nat),(0<n6/\a0.l.length<s3_7+n6)->Z37_l6 a0 n6 s3_7=Option.bind (Z37_q6  (a0.l.drop s3_7) ) Kb6:=by
 intro n6;induction n6 with
 | zero=>intro s3_7 hn; exact absurd hn.1 (by omega)
 | succ n6 ih6 =>
  intro s3_7 hn;rw [Z37_l6];by_cases hlt:s3_7<a0.l.length
  ·obtain⟨h6,hh6⟩:∃x,a0.l[s3_7]?=some x:=⟨_,List.getElem?_eq_getElem hlt⟩;rw [Q.drop_of hh6,Z37_q6];refine Q.condT (Q.ltT hlt) ?_;refine Q.bindPO hh6 fun x14 hx_x14=>?_;refine Q.bindPO (Z16_eq _) fun x15 hx_x15=>?_;refine Q.guardPO hh6 fun x16 hx_x16=>?_;refine Q.guardOO (Z35_eq _) fun x17=>?_;refine Q.condO ?_ ?_
   ·all_goals exact hret _
   all_goals exact ih6 _ ⟨by omega,by omega⟩
  rw [List.drop_of_length_le (by omega),Z37_q6];refine Q.condF (Q.ltF hlt) ?_;exact hend n6 s3_7
def Z37_q (a0:(Sl TDir)):Option Bool:=Option.bind (Z37_q6  a0.l ) fun o6=>match o6 with|Sum.inl _=>(on (()) fun _=>some (decide (((a0.l.length:Nat):Int)<=(16:Int))))|Sum.inr e6=>(some e6)
theorem Z37_eq (a0:(Sl TDir)):Z37 a0=Z37_q a0:=by
 unfold Z37 Z37_q;refine Eq.trans ?_ (Q.some_bind _);refine Q.wrapOO fun Kb6 hKb6=>?_;refine Z37_l6_qe  Kb6 ?_ ?_ _ _ ⟨Nat.succ_pos _,by omega⟩
 ·intro n6 s3_7;refine Eq.trans ?_ (hKb6 _).symm;try dsimp only
  refine Q.wrapPO fun Kj2 hKj2=>?_;have hj2:Z37_j2 a0 =Kj2 ():=by
   refine Eq.trans ?_ (hKj2 _).symm;unfold Z37_j2;all_goals rfl
  all_goals exact hj2
 intro e6;refine Eq.trans ?_ (hKb6 _).symm;try dsimp only
 all_goals rfl
def r08_selsRight_q10 (a1:Int) (k_rec_66:TSel->Int->Option Bool):List TSel->Option (Unit ⊕ Bool)
 | []=>some (Sum.inl ())
 | h10::r10=>on (h10) fun x18=>(k_rec_66 x18 a1).bind fun x19=>bif (!x19) then(some (Sum.inr false)) else(r08_selsRight_q10 a1 k_rec_66 (r10) )
theorem r08_selsRight_l10_qe {a0:(Sl TSel)}{a1:Int}{k_rec_66:TSel->Int->Option Bool}  (Kb10:(Unit ⊕ Bool)->Option Bool) (hend:∀(n10:Nat) (s5_11:Nat),r08_selsRight_j7   =Kb10 (Sum.inl ())) (hret:∀e:Bool,some e=Kb10 (Sum.inr e)):∀(n10:Nat) (s5_11:Nat),(0<n10/\a0.l.length<s5_11+n10)->r08_selsRight_l10 a0 a1 k_rec_66 n10 s5_11=Option.bind (r08_selsRight_q10 a1 k_rec_66 (a0.l.drop s5_11) ) Kb10:=by
 intro n10;induction n10 with
 | zero=>intro s5_11 hn; exact absurd hn.1 (by omega)
 | succ n10 ih10 =>
  intro s5_11 hn;rw [r08_selsRight_l10];by_cases hlt:s5_11<a0.l.length
  ·obtain⟨h10,hh10⟩:∃x,a0.l[s5_11]?=some x:=⟨_,List.getElem?_eq_getElem hlt⟩;rw [Q.drop_of hh10,r08_selsRight_q10];refine Q.condT (Q.ltT hlt) ?_;refine Q.bindPO hh10 fun x18 hx_x18=>?_;refine Q.bindO rfl fun x19=>?_;refine Q.condO ?_ ?_
   ·all_goals exact hret _
   all_goals exact ih10 _ ⟨by omega,by omega⟩
  rw [List.drop_of_length_le (by omega),r08_selsRight_q10];refine Q.condF (Q.ltF hlt) ?_;exact hend n10 s5_11
mutual
def r08_selsRight_qn:Nat->(Sl TSel)->Int->Option Bool
 | 0,_,_=>none
 | n+1,a0,a1=>bif (((decide (((a0.l.length:Nat):Int)=(0:Int)))||(decide ((64:Int)<((a0.l.length:Nat):Int))))||(decide ((24:Int)<a1))) then(some false) else(Option.bind (r08_selsRight_q10 a1 (Z38_qn n) a0.l ) fun o10=>match o10 with|Sum.inl _=>(on (()) fun _=>some true)|Sum.inr e10=>(some e10))
def Z38_qn:Nat->TSel->Int->Option Bool
 | 0,_,_=>none
 | n+1,a0,a1=>(Z37_q a0.FDirs).bind fun x4=>guardO (!(!x4)) (Z35_q a0.FArgs) false fun x5=>bif ((!x4)||(!x5)) then(some false) else(bif (decide (a0.FKind=(1:Int))) then(on (Z16_q a0.FName) fun x13=>on (bif (x13&&!((a0.FAlias==([]:Bs)))) then Z16_q a0.FAlias else false) fun x14=>guardO ((((x13&&(((a0.FAlias==([]:Bs)))||x14))&&((a0.FOn==([]:Bs))))&&!(decide (((a0.FSels.l.length:Nat):Int)=(0:Int))))) (addC a1 (1:Int)) (0:Int) fun x15=>guardO ((((x13&&(((a0.FAlias==([]:Bs)))||x14))&&((a0.FOn==([]:Bs))))&&!(decide (((a0.FSels.l.length:Nat):Int)=(0:Int))))) ((r08_selsRight_qn n) a0.FSels x15) false fun x16=>some (((x13&&(((a0.FAlias==([]:Bs)))||x14))&&((a0.FOn==([]:Bs))))&&((decide (((a0.FSels.l.length:Nat):Int)=(0:Int)))||x16))) else(bif (decide (a0.FKind=(2:Int))) then(on (Z39_q a0.FName) fun x20=>some ((((x20&&((a0.FAlias==([]:Bs))))&&((a0.FOn==([]:Bs))))&&(decide (((a0.FArgs.l.length:Nat):Int)=(0:Int))))&&(decide (((a0.FSels.l.length:Nat):Int)=(0:Int))))) else(bif (decide (a0.FKind=(3:Int))) then(on (bif ((((a0.FName==([]:Bs)))&&((a0.FAlias==([]:Bs))))&&!((a0.FOn==([]:Bs)))) then Z16_q a0.FOn else false) fun x24=>guardO ((((((a0.FName==([]:Bs)))&&((a0.FAlias==([]:Bs))))&&(((a0.FOn==([]:Bs)))||x24))&&(decide (((a0.FArgs.l.length:Nat):Int)=(0:Int))))) (addC a1 (1:Int)) (0:Int) fun x25=>guardO ((((((a0.FName==([]:Bs)))&&((a0.FAlias==([]:Bs))))&&(((a0.FOn==([]:Bs)))||x24))&&(decide (((a0.FArgs.l.length:Nat):Int)=(0:Int))))) ((r08_selsRight_qn n) a0.FSels x25) false fun x26=>some ((((((a0.FName==([]:Bs)))&&((a0.FAlias==([]:Bs))))&&(((a0.FOn==([]:Bs)))||x24))&&(decide (((a0.FArgs.l.length:Nat):Int)=(0:Int))))&&x26)) else(some false))))
end
theorem r08_selsRight_qall:∀n:Nat,r08_selsRight_n n=r08_selsRight_qn n/\Z38_n n=Z38_qn n:=by
 intro n;induction n with
 | zero=>exact⟨(by funext a0 a1; first|rfl|(rw [r08_selsRight_n,r08_selsRight_qn])),(by funext a0 a1; first|rfl|(rw [Z38_n,Z38_qn]))⟩
 | succ n ih =>
  refine⟨?_, ?_⟩
  ·funext a0 a1
   refine Eq.trans ?_ (Q.some_bind _);rw [r08_selsRight_n,r08_selsRight_qn];try rw [ih.1]
   try rw [ih.2]
   refine Q.condO ?_ ?_
   ·all_goals rfl
   refine Q.wrapOO fun Kb10 hKb10=>?_;refine r08_selsRight_l10_qe  Kb10 ?_ ?_ _ _ ⟨Nat.succ_pos _,by omega⟩
   ·intro n10 s5_11;refine Eq.trans ?_ (hKb10 _).symm;try dsimp only
    refine Q.wrapPO fun Kj7 hKj7=>?_;have hj7:r08_selsRight_j7  =Kj7 ():=by
     refine Eq.trans ?_ (hKj7 _).symm;unfold r08_selsRight_j7;all_goals rfl
    all_goals exact hj7
   intro e10;refine Eq.trans ?_ (hKb10 _).symm;try dsimp only
   all_goals rfl
  funext a0 a1
  refine Eq.trans ?_ (Q.some_bind _);rw [Z38_n,Z38_qn];try rw [ih.1]
  try rw [ih.2]
  refine Q.bindO (Z37_eq _) fun x4=>?_;refine Q.guardOO (Z35_eq _) fun x5=>?_;refine Q.condO ?_ ?_
  ·all_goals rfl
  refine Q.condO ?_ ?_
  ·refine Q.bindPO (Z16_eq _) fun x13 hx_x13=>?_;refine Q.guardPO (Z16_eq _) fun x14 hx_x14=>?_;refine Q.guardOO rfl fun x15=>?_;refine Q.guardOO rfl fun x16=>?_;all_goals rfl
  refine Q.condO ?_ ?_
  ·refine Q.bindPO (Z39_eq _) fun x20 hx_x20=>?_;all_goals rfl
  refine Q.condO ?_ ?_
  ·refine Q.guardPO (Z16_eq _) fun x24 hx_x24=>?_;refine Q.guardOO rfl fun x25=>?_;refine Q.guardOO rfl fun x26=>?_;all_goals rfl
  all_goals rfl
def r08_selsRight_q (a0:(Sl TSel)) (a1:Int):Option Bool:=r08_selsRight_qn F0 a0 a1
theorem r08_selsRight_eq (a0:(Sl TSel)) (a1:Int):r08_selsRight a0 a1=r08_selsRight_q a0 a1:=by
 unfold r08_selsRight r08_selsRight_q; rw [(r08_selsRight_qall F0).1]
end Go.Proofs

namespace Go.Proofs
open Go Go.Ab
def Z34_q30 :List TOp->Option (Unit ⊕ Bool)
 | []=>some (Sum.inl ())
 | h30::r30=>on (h30) fun x38=>on (bif (!((decide (x38.FKind<(1:Int)))||(decide ((3:Int)<x38.FKind)))&&(!(x38.FName==([]:Bs)))) then Z16_q x38.FName else false) fun x40=>guardO (!(((decide (x38.FKind<(1:Int)))||(decide ((3:Int)<x38.FKind)))||((!(x38.FName==([]:Bs)))&&(!x40)))) (Z40_q x38.FVars) false fun x41=>guardO (!((((decide (x38.FKind<(1:Int)))||(decide ((3:Int)<x38.FKind)))||((!(x38.FName==([]:Bs)))&&(!x40)))||(!x41))) (r08_selsRight_q x38.FSels (1:Int)) false fun x42=>bif (((((decide (x38.FKind<(1:Int)))||(decide ((3:Int)<x38.FKind)))||((!(x38.FName==([]:Bs)))&&(!x40)))||(!x41))||(!x42)) then(some (Sum.inr false)) else(Z34_q30  (r30) )
theorem Z34_l30_qe {a0:TQuery}  (Kb30:(Unit ⊕ Bool)->Option Bool) (hend:∀(n30:Nat) (s4_31:Nat),Z34_j10 a0  =Kb30 (Sum.inl ())) (hret:∀e:Bool,some e=Kb30 (Sum.inr e)):∀(n30:Nat) (s4_31:Nat),(0<n30/\a0.FOps.l.length<s4_31+n30)->Z34_l30 a0 n30 s4_31=Option.bind (Z34_q30  (a0.FOps.l.drop s4_31) ) Kb30:=by
 intro n30;induction n30 with
 | zero=>intro s4_31 hn; exact absurd hn.1 (by omega)
 | succ n30 ih30 =>
  intro s4_31 hn;rw [Z34_l30];by_cases hlt:s4_31<a0.FOps.l.length
  ·obtain⟨h30,hh30⟩:∃x,a0.FOps.l[s4_31]?=some x:=⟨_,List.getElem?_eq_getElem hlt⟩;rw [Q.drop_of hh30,Z34_q30];refine Q.condT (Q.ltT hlt) ?_;refine Q.bindPO hh30 fun x38 hx_x38=>?_;refine Q.guardPO (Z16_eq _) fun x40 hx_x40=>?_;refine Q.guardOO (Z40_eq _) fun x41=>?_;refine Q.guardOO (r08_selsRight_eq _ _) fun x42=>?_;refine Q.condO ?_ ?_
   ·all_goals exact hret _
   all_goals exact ih30 _ ⟨by omega,by omega⟩
  rw [List.drop_of_length_le (by omega),Z34_q30];refine Q.condF (Q.ltF hlt) ?_;exact hend n30 s4_31
def Z34_q14 :List TFrag->Option (Unit ⊕ Bool)
 | []=>some (Sum.inl ())
 | h14::r14=>on (h14) fun x22=>on (Z39_q x22.FName) fun x24=>on (bif !(!x24) then Z16_q x22.FOn else false) fun x25=>guardO (!((!x24)||(!x25))) (r08_selsRight_q x22.FSels (1:Int)) false fun x26=>bif (((!x24)||(!x25))||(!x26)) then(some (Sum.inr false)) else(Z34_q14  (r14) )
theorem Z34_l14_qe {a0:TQuery}  (Kb14:(Unit ⊕ Bool)->Option Bool) (hend:∀(n14:Nat) (s6_15:Nat),Z34_j11   =Kb14 (Sum.inl ())) (hret:∀e:Bool,some e=Kb14 (Sum.inr e)):∀(n14:Nat) (s6_15:Nat),(0<n14/\a0.FFrags.l.length<s6_15+n14)->Z34_l14 a0 n14 s6_15=Option.bind (Z34_q14  (a0.FFrags.l.drop s6_15) ) Kb14:=by
 intro n14;induction n14 with
 | zero=>intro s6_15 hn; exact absurd hn.1 (by omega)
 | succ n14 ih14 =>
  intro s6_15 hn;rw [Z34_l14];by_cases hlt:s6_15<a0.FFrags.l.length
  ·obtain⟨h14,hh14⟩:∃x,a0.FFrags.l[s6_15]?=some x:=⟨_,List.getElem?_eq_getElem hlt⟩;rw [Q.drop_of hh14,Z34_q14];refine Q.condT (Q.ltT hlt) ?_;refine Q.bindPO hh14 fun x22 hx_x22=>?_;refine Q.bindPO (Z39_eq _) fun x24 hx_x24=>?_;refine Q.guardPO (Z16_eq _) fun x25 hx_x25=>?_;refine Q.guardOO (r08_selsRight_eq _ _) fun x26=>?_;refine Q.condO ?_ ?_
   ·all_goals exact hret _
   all_goals exact ih14 _ ⟨by omega,by omega⟩
  rw [List.drop_of_length_le (by omega),Z34_q14];refine Q.condF (Q.ltF hlt) ?_;exact hend n14 s6_15
def Z34_q (a0:TQuery):Option Bool:=(addC ((a0.FOps.l.length:Nat):Int) ((a0.FFrags.l.length:Nat):Int)).bind fun x5=>bif ((decide (x5<(1:Int)))||(decide ((64:Int)<x5))) then(some false) else(Option.bind (Z34_q30  a0.FOps.l ) fun o30=>match o30 with|Sum.inl _=>(on (()) fun _=>Option.bind (Z34_q14  a0.FFrags.l ) fun o14=>match o14 with|Sum.inl _=>(on (()) fun _=>some true)|Sum.inr e14=>(some e14))|Sum.inr e30=>(some e30))
theorem Z34_eq (a0:TQuery):Z34 a0=Z34_q a0:=by
 unfold Z34 Z34_q;refine Eq.trans ?_ (Q.some_bind _);refine Q.bindO rfl fun x5=>?_;refine Q.condO ?_ ?_
 ·all_goals rfl
 refine Q.wrapOO fun Kb30 hKb30=>?_;refine Z34_l30_qe  Kb30 ?_ ?_ _ _ ⟨Nat.succ_pos _,by omega⟩
 ·intro n30 s4_31;refine Eq.trans ?_ (hKb30 _).symm;try dsimp only
  refine Q.wrapPO fun Kj10 hKj10=>?_;have hj10:Z34_j10 a0 =Kj10 ():=by
   refine Eq.trans ?_ (hKj10 _).symm;unfold Z34_j10;refine Q.wrapOO fun Kb14 hKb14=>?_;refine Z34_l14_qe  Kb14 ?_ ?_ _ _ ⟨Nat.succ_pos _,by omega⟩
   ·intro n14 s6_15;refine Eq.trans ?_ (hKb14 _).symm;try dsimp only
    refine Q.wrapPO fun Kj11 hKj11=>?_;have hj11:Z34_j11  =Kj11 ():=by
     refine Eq.trans ?_ (hKj11 _).symm;unfold Z34_j11;all_goals rfl
    all_goals exact hj11
   intro e14;refine Eq.trans ?_ (hKb14 _).symm;try dsimp only
   all_goals rfl
  all_goals exact hj10
 intro e30;refine Eq.trans ?_ (hKb30 _).symm;try dsimp only
 all_goals rfl
def Z51_q (a0:Bs):Bool:=(((((a0==([73,110,116]:Bs)))||((a0==([83,116,114,105,110,103]:Bs))))||((a0==([66,111,111,108,101,97,110]:Bs))))||((a0==([73,68]:Bs))))
theorem Z51_eq (a0:Bs):Z51 a0=some (Z51_q a0):=by
 unfold Z51 Z51_q;all_goals rfl
def Z17_q (a0:Bs):Option Bool:=guardO ((decide ((2:Int)<=((a0.length:Nat):Int)))) (a0[0]?) (0:UInt8) fun x4=>guardO (((decide ((2:Int)<=((a0.length:Nat):Int)))&&(decide (((x4.toNat:Nat):Int)=(95:Int))))) (a0[1]?) (0:UInt8) fun x5=>some (((decide ((2:Int)<=((a0.length:Nat):Int)))&&(decide (((x4.toNat:Nat):Int)=(95:Int))))&&(decide (((x5.toNat:Nat):Int)=(95:Int))))
theorem Z17_eq (a0:Bs):Z17 a0=Z17_q a0:=by
 unfold Z17 Z17_q;refine Eq.trans ?_ (Q.some_bind _);refine Q.guardOO rfl fun x4=>?_;refine Q.guardOO rfl fun x5=>?_;all_goals rfl
def Z52_q (a0:Bs):Option Bool:=on (Z16_q a0) fun x3=>guardO (x3) (Z17_q a0) false fun x4=>some (x3&&(!x4))
theorem Z52_eq (a0:Bs):Z52 a0=Z52_q a0:=by
 unfold Z52 Z52_q;refine Eq.trans ?_ (Q.some_bind _);refine Q.bindPO (Z16_eq _) fun x3 hx_x3=>?_;refine Q.guardOO (Z17_eq _) fun x4=>?_;all_goals rfl
def Z61_q (a0:Bs) (a1:Bool) (a2:Bool) (a3:Bs):Option (Sl TFault):=guardO (!a1) (Z52_q a0) false fun x12=>Option.bind (bif (a1||(!x12)) then((appC 24 (Sl.nil:Sl TFault) (⟨false,[(TFault.mk (6:Int) a3)]⟩:Sl TFault)).bind fun x14=>some x14) else(some (Sl.nil:Sl TFault))) fun s9_4=>Option.bind (bif a2 then((appC 24 s9_4 (⟨false,[(TFault.mk (7:Int) a3)]⟩:Sl TFault)).bind fun x10=>some x10) else(some s9_4)) fun s9_6=>some s9_6
theorem Z61_eq (a0:Bs) (a1:Bool) (a2:Bool) (a3:Bs):Z61 a0 a1 a2 a3=Z61_q a0 a1 a2 a3:=by
 unfold Z61 Z61_q;refine Eq.trans ?_ (Q.some_bind _);refine Q.guardOO (Z52_eq _) fun x12=>?_;refine Q.wrapOO fun Kj3 hKj3=>?_;have hj3:∀(s9_4:(Sl TFault)),Z61_j3 a2 a3 s9_4=Kj3 s9_4:=by
  intro s9_4;refine Eq.trans ?_ (hKj3 _).symm;unfold Z61_j3;refine Q.wrapOO fun Kj5 hKj5=>?_;have hj5:∀(s9_6:(Sl TFault)),Z61_j5  s9_6=Kj5 s9_6:=by
   intro s9_6;refine Eq.trans ?_ (hKj5 _).symm;unfold Z61_j5;all_goals rfl
  refine Q.condO ?_ ?_
  ·refine Q.bindO rfl fun x10=>?_;all_goals exact hj5 _
  all_goals exact hj5 _
 refine Q.condO ?_ ?_
 ·refine Q.bindO rfl fun x14=>?_;all_goals exact hj3 _
 all_goals exact hj3 _
def Z55_q (a0:TDef):Bool:=on (bif (decide (a0.FKind=(1:Int))) then((decide (a0.FKind=(1:Int)))) else((decide (a0.FKind=(2:Int))))) fun s5_6=>bif s5_6 then((decide (((a0.FFields.l.length:Nat):Int)=(0:Int)))) else(on (bif (decide (a0.FKind=(3:Int))) then((decide (a0.FKind=(3:Int)))) else((decide (a0.FKind=(4:Int))))) fun s12_11=>bif s12_11 then((decide (((a0.FMembers.l.length:Nat):Int)=(0:Int)))) else(bif (decide (a0.FKind=(5:Int))) then((decide (((a0.FInputs.l.length:Nat):Int)=(0:Int)))) else(on (()) fun _=>false)))
theorem Z55_eq (a0:TDef):Z55 a0=some (Z55_q a0):=by
 unfold Z55 Z55_q;refine Q.wrapPP fun Kj5 hKj5=>?_;have hj5:∀(s5_6:Bool),Z55_j5 a0 s5_6=Kj5 s5_6:=by
  intro s5_6;refine Eq.trans ?_ (hKj5 _).symm;unfold Z55_j5;refine Q.condP ?_ ?_
  ·all_goals rfl
  refine Q.wrapPP fun Kj10 hKj10=>?_;have hj10:∀(s12_11:Bool),Z55_j10 a0 s12_11=Kj10 s12_11:=by
   intro s12_11;refine Eq.trans ?_ (hKj10 _).symm;unfold Z55_j10;refine Q.condP ?_ ?_
   ·all_goals rfl
   refine Q.condP ?_ ?_
   ·all_goals rfl
   refine Q.wrapPP fun Kj2 hKj2=>?_;have hj2:Z55_j2  =Kj2 ():=by
    refine Eq.trans ?_ (hKj2 _).symm;unfold Z55_j2;all_goals rfl
   all_goals exact hj2
  refine Q.condP ?_ ?_
  ·all_goals exact hj10 _
  all_goals exact hj10 _
 refine Q.condP ?_ ?_
 ·all_goals exact hj5 _
 all_goals exact hj5 _
def Z45_q6 (a1:Bs):List TDef->Unit ⊕ ((TDef×Bool))
 | []=>Sum.inl ()
 | h6::r6=>on (h6) fun x15=>bif ((x15.FName==a1)) then(on (h6) fun x18=>Sum.inr (x18,true)) else(Z45_q6 a1 (r6) )
theorem Z45_l6_qe {a0:TDoc}{a1:Bs}  (Kb6:(Unit ⊕ ((TDef×Bool)))->Option (TDef×Bool)) (hend:∀(n6:Nat) (s6_7:Nat) (y8_l0:TDef),Z45_j2   y8_l0=Kb6 (Sum.inl ())) (hret:∀e:(TDef×Bool),some e=Kb6 (Sum.inr e)):∀(n6:Nat) (s6_7:Nat) (y8_l0:TDef),(0<n6/\a0.FDefs.l.length<s6_7+n6)->Z45_l6 a0 a1 n6 s6_7 y8_l0=Kb6 (Z45_q6 a1 (a0.FDefs.l.drop s6_7) ):=by
 intro n6;induction n6 with
 | zero=>intro s6_7 y8_l0 hn; exact absurd hn.1 (by omega)
 | succ n6 ih6 =>
  intro s6_7 y8_l0 hn;rw [Z45_l6];by_cases hlt:s6_7<a0.FDefs.l.length
  ·obtain⟨h6,hh6⟩:∃x,a0.FDefs.l[s6_7]?=some x:=⟨_,List.getElem?_eq_getElem hlt⟩;rw [Q.drop_of hh6,Z45_q6];refine Q.condT (Q.ltT hlt) ?_;refine Q.bindP hh6 fun x15 hx_x15=>?_;refine Q.condP ?_ ?_
   ·refine Q.bindP hh6 fun x18 hx_x18=>?_;all_goals exact hret _
   all_goals exact ih6 _ _ ⟨by omega,by omega⟩
  rw [List.drop_of_length_le (by omega),Z45_q6];refine Q.condF (Q.ltF hlt) ?_;exact hend n6 s6_7 y8_l0
def Z45_q (a0:TDoc) (a1:Bs):(TDef×Bool):=on (Z45_q6 a1 a0.FDefs.l ) fun o6=>match o6 with|Sum.inl _=>(on (()) fun _=>((TDef.mk (0:Int) ([]:Bs) (Sl.nil:Sl Bs) (Sl.nil:Sl TDir) (Sl.nil:Sl TField) (Sl.nil:Sl TMember) (Sl.nil:Sl TInput)),false))|Sum.inr e6=>(e6)
theorem Z45_eq (a0:TDoc) (a1:Bs):Z45 a0 a1=some (Z45_q a0 a1):=by
 unfold Z45 Z45_q;refine Q.wrapPP fun Kb6 hKb6=>?_;refine Z45_l6_qe  Kb6 ?_ ?_ _ _ _ ⟨Nat.succ_pos _,by omega⟩
 ·intro n6 s6_7 y8_l0;refine Eq.trans ?_ (hKb6 _).symm;try dsimp only
  refine Q.wrapPP fun Kj2 hKj2=>?_;have hj2:∀(y3_l0:TDef),Z45_j2  y3_l0=Kj2 ():=by
   intro y3_l0;refine Eq.trans ?_ (hKj2 _).symm;unfold Z45_j2;all_goals rfl
  all_goals exact hj2 _
 intro e6;refine Eq.trans ?_ (hKb6 _).symm;try dsimp only
 all_goals rfl
def Z57_q5 (a1:Bs):List Bs->Unit ⊕ Bool
 | []=>Sum.inl ()
 | h5::r5=>on (h5) fun x13=>bif ((x13==a1)) then(Sum.inr true) else(Z57_q5 a1 (r5) )
theorem Z57_l5_qe {a0:(Sl Bs)}{a1:Bs}  (Kb5:(Unit ⊕ Bool)->Option Bool) (hend:∀(n5:Nat) (s5_6:Nat),Z57_j2   =Kb5 (Sum.inl ())) (hret:∀e:Bool,some e=Kb5 (Sum.inr e)):∀(n5:Nat) (s5_6:Nat),(0<n5/\a0.l.length<s5_6+n5)->Z57_l5 a0 a1 n5 s5_6=Kb5 (Z57_q5 a1 (a0.l.drop s5_6) ):=by
 intro n5;induction n5 with
 | zero=>intro s5_6 hn; exact absurd hn.1 (by omega)
 | succ n5 ih5 =>
  intro s5_6 hn;rw [Z57_l5];by_cases hlt:s5_6<a0.l.length
  ·obtain⟨h5,hh5⟩:∃x,a0.l[s5_6]?=some x:=⟨_,List.getElem?_eq_getElem hlt⟩;rw [Q.drop_of hh5,Z57_q5];refine Q.condT (Q.ltT hlt) ?_;refine Q.bindP hh5 fun x13 hx_x13=>?_;refine Q.condP ?_ ?_
   ·all_goals exact hret _
   all_goals exact ih5 _ ⟨by omega,by omega⟩
  rw [List.drop_of_length_le (by omega),Z57_q5];refine Q.condF (Q.ltF hlt) ?_;exact hend n5 s5_6
def Z57_q (a0:(Sl Bs)) (a1:Bs):Bool:=on (Z57_q5 a1 a0.l ) fun o5=>match o5 with|Sum.inl _=>(on (()) fun _=>false)|Sum.inr e5=>(e5)
theorem Z57_eq (a0:(Sl Bs)) (a1:Bs):Z57 a0 a1=some (Z57_q a0 a1):=by
 unfold Z57 Z57_q;refine Q.wrapPP fun Kb5 hKb5=>?_;refine Z57_l5_qe  Kb5 ?_ ?_ _ _ ⟨Nat.succ_pos _,by omega⟩
 ·intro n5 s5_6;refine Eq.trans ?_ (hKb5 _).symm;try dsimp only
  refine Q.wrapPP fun Kj2 hKj2=>?_;have hj2:Z57_j2  =Kj2 ():=by
   refine Eq.trans ?_ (hKj2 _).symm;unfold Z57_j2;all_goals rfl
  all_goals exact hj2
 intro e5;refine Eq.trans ?_ (hKb5 _).symm;try dsimp only
 all_goals rfl
def Z54_q (a0:TRef):Option Bool:=guardO ((decide (((a0.FWraps.l.length:Nat):Int)=(1:Int)))) (a0.FWraps.l[0]?) (0:Int) fun x4=>some ((decide (((a0.FWraps.l.length:Nat):Int)=(1:Int)))&&(decide (x4=(1:Int))))
theorem Z54_eq (a0:TRef):Z54 a0=Z54_q a0:=by
 unfold Z54 Z54_q;refine Eq.trans ?_ (Q.some_bind _);refine Q.guardOO rfl fun x4=>?_;all_goals rfl
def Z62_q6 (a0:TDoc) (a2:Bs):List TInput->(Sl Bs)->Option ((Sl Bs))
 | [],s3_7=>some s3_7
 | h6::r6,s3_7=>on (h6) fun x16=>on (Z45_q a0 x16.FType.FName) fun x18=>(Z54_q x16.FType).bind fun x20=>on (bif (x20&&(((x16.FType.FName==a2))||(x18.2&&(decide (x18.1.FKind=(5:Int)))))) then Z57_q s3_7 x16.FType.FName else false) fun x21=>Option.bind (bif ((x20&&(((x16.FType.FName==a2))||(x18.2&&(decide (x18.1.FKind=(5:Int))))))&&(!x21)) then((appC 16 s3_7 (⟨false,[x16.FType.FName]⟩:Sl Bs)).bind fun x23=>some x23) else(some s3_7)) fun s3_14=>Z62_q6 a0 a2 (r6) s3_14
theorem Z62_l6_qe {a0:TDoc}{a1:TDef}{a2:Bs}  (Kb6:((Sl Bs))->Option (Sl Bs)) (hend:∀(n6:Nat) (s3_7:(Sl Bs)) (s9_8:Nat),Z62_j2   s3_7=Kb6 s3_7):∀(n6:Nat) (s3_7:(Sl Bs)) (s9_8:Nat),(0<n6/\a1.FInputs.l.length<s9_8+n6)->Z62_l6 a0 a1 a2 n6 s3_7 s9_8=Option.bind (Z62_q6 a0 a2 (a1.FInputs.l.drop s9_8) s3_7) Kb6:=by
 intro n6;induction n6 with
 | zero=>intro s3_7 s9_8 hn; exact absurd hn.1 (by omega)
 | succ n6 ih6 =>
  intro s3_7 s9_8 hn;rw [Z62_l6];by_cases hlt:s9_8<a1.FInputs.l.length
  ·obtain⟨h6,hh6⟩:∃x,a1.FInputs.l[s9_8]?=some x:=⟨_,List.getElem?_eq_getElem hlt⟩;rw [Q.drop_of hh6,Z62_q6];refine Q.condT (Q.ltT hlt) ?_;refine Q.bindPO hh6 fun x16 hx_x16=>?_;refine Q.bindPO (Z45_eq _ _) fun x18 hx_x18=>?_;refine Q.bindO (Z54_eq _) fun x20=>?_;refine Q.guardPO (Z57_eq _ _) fun x21 hx_x21=>?_;refine Q.wrapOO fun Kj13 hKj13=>?_;have hj13:∀(s3_14:(Sl Bs)),Z62_j13 s9_8 (Z62_l6 a0 a1 a2 n6) s3_14=Kj13 s3_14:=by
    intro s3_14;refine Eq.trans ?_ (hKj13 _).symm;unfold Z62_j13;all_goals exact ih6 _ _ ⟨by omega,by omega⟩
   refine Q.condO ?_ ?_
   ·refine Q.bindO rfl fun x23=>?_;all_goals exact hj13 _
   all_goals exact hj13 _
  rw [List.drop_of_length_le (by omega),Z62_q6];refine Q.condF (Q.ltF hlt) ?_;exact hend n6 s3_7 s9_8
def Z62_q (a0:TDoc) (a1:TDef) (a2:Bs) (a3:(Sl Bs)):Option (Sl Bs):=Option.bind (Z62_q6 a0 a2 a1.FInputs.l a3) fun s3_7=>on (s3_7) fun s3_3=>some s3_3
theorem Z62_eq (a0:TDoc) (a1:TDef) (a2:Bs) (a3:(Sl Bs)):Z62 a0 a1 a2 a3=Z62_q a0 a1 a2 a3:=by
 unfold Z62 Z62_q;refine Eq.trans ?_ (Q.some_bind _);refine Q.wrapOO fun Kb6 hKb6=>?_;refine Z62_l6_qe  Kb6 ?_ _ _ _ ⟨Nat.succ_pos _,by omega⟩;intro n6 s3_7 s9_8;refine Eq.trans ?_ (hKb6 _).symm;refine Q.wrapPO fun Kj2 hKj2=>?_;have hj2:∀(s3_3:(Sl Bs)),Z62_j2  s3_3=Kj2 s3_3:=by
  intro s3_3;refine Eq.trans ?_ (hKj2 _).symm;unfold Z62_j2;all_goals rfl
 all_goals exact hj2 _
def Z63_q (a0:TDoc) (a1:Int):Option (Sl TFault):=Z63 a0 a1
theorem Z63_eq (a0:TDoc) (a1:Int):Z63 a0 a1=Z63_q a0 a1:=rfl
def Z59_q (a0:TDoc) (a1:Bs):Bool:=on (Z45_q a0 a1) fun x3=>on (Z51_q a1) fun x5=>(x5||x3.2)
theorem Z59_eq (a0:TDoc) (a1:Bs):Z59 a0 a1=some (Z59_q a0 a1):=by
 unfold Z59 Z59_q;refine Q.bindP (Z45_eq _ _) fun x3 hx_x3=>?_;refine Q.bindP (Z51_eq _) fun x5 hx_x5=>?_;all_goals rfl
def Z46_q6 (a1:Bs):List TInput->Unit ⊕ ((TInput×Bool))
 | []=>Sum.inl ()
 | h6::r6=>on (h6) fun x15=>bif ((x15.FName==a1)) then(on (h6) fun x18=>Sum.inr (x18,true)) else(Z46_q6 a1 (r6) )
theorem Z46_l6_qe {a0:(Sl TInput)}{a1:Bs}  (Kb6:(Unit ⊕ ((TInput×Bool)))->Option (TInput×Bool)) (hend:∀(n6:Nat) (s6_7:Nat) (y8_l0:TInput),Z46_j2   y8_l0=Kb6 (Sum.inl ())) (hret:∀e:(TInput×Bool),some e=Kb6 (Sum.inr e)):∀(n6:Nat) (s6_7:Nat) (y8_l0:TInput),(0<n6/\a0.l.length<s6_7+n6)->Z46_l6 a0 a1 n6 s6_7 y8_l0=Kb6 (Z46_q6 a1 (a0.l.drop s6_7) ):=by
 intro n6;induction n6 with
 | zero=>intro s6_7 y8_l0 hn; exact absurd hn.1 (by omega)
 | succ n6 ih6 =>
  intro s6_7 y8_l0 hn;rw [Z46_l6];by_cases hlt:s6_7<a0.l.length
  ·obtain⟨h6,hh6⟩:∃x,a0.l[s6_7]?=some x:=⟨_,List.getElem?_eq_getElem hlt⟩;rw [Q.drop_of hh6,Z46_q6];refine Q.condT (Q.ltT hlt) ?_;refine Q.bindP hh6 fun x15 hx_x15=>?_;refine Q.condP ?_ ?_
   ·refine Q.bindP hh6 fun x18 hx_x18=>?_;all_goals exact hret _
   all_goals exact ih6 _ _ ⟨by omega,by omega⟩
  rw [List.drop_of_length_le (by omega),Z46_q6];refine Q.condF (Q.ltF hlt) ?_;exact hend n6 s6_7 y8_l0
def Z46_q (a0:(Sl TInput)) (a1:Bs):(TInput×Bool):=on (Z46_q6 a1 a0.l ) fun o6=>match o6 with|Sum.inl _=>(on (()) fun _=>((TInput.mk ([]:Bs) TRef.zero false TValue.zero (Sl.nil:Sl TDir)),false))|Sum.inr e6=>(e6)
theorem Z46_eq (a0:(Sl TInput)) (a1:Bs):Z46 a0 a1=some (Z46_q a0 a1):=by
 unfold Z46 Z46_q;refine Q.wrapPP fun Kb6 hKb6=>?_;refine Z46_l6_qe  Kb6 ?_ ?_ _ _ _ ⟨Nat.succ_pos _,by omega⟩
 ·intro n6 s6_7 y8_l0;refine Eq.trans ?_ (hKb6 _).symm;try dsimp only
  refine Q.wrapPP fun Kj2 hKj2=>?_;have hj2:∀(y3_l0:TInput),Z46_j2  y3_l0=Kj2 ():=by
   intro y3_l0;refine Eq.trans ?_ (hKj2 _).symm;unfold Z46_j2;all_goals rfl
  all_goals exact hj2 _
 intro e6;refine Eq.trans ?_ (hKb6 _).symm;try dsimp only
 all_goals rfl
def Z49_q (a0:TDoc) (a1:Bs):Bool:=on (Z45_q a0 a1) fun x3=>on (Z51_q a1) fun x5=>(x5||(x3.2&&(decide (x3.1.FKind=(4:Int)))))
theorem Z49_eq (a0:TDoc) (a1:Bs):Z49 a0 a1=some (Z49_q a0 a1):=by
 unfold Z49 Z49_q;refine Q.bindP (Z45_eq _ _) fun x3 hx_x3=>?_;refine Q.bindP (Z51_eq _) fun x5 hx_x5=>?_;all_goals rfl
def Z47_q (a0:TDoc) (a1:Bs):Bool:=on (Z45_q a0 a1) fun x3=>on (Z49_q a0 a1) fun x5=>(x5||(x3.2&&(decide (x3.1.FKind=(5:Int)))))
theorem Z47_eq (a0:TDoc) (a1:Bs):Z47 a0 a1=some (Z47_q a0 a1):=by
 unfold Z47 Z47_q;refine Q.bindP (Z45_eq _ _) fun x3 hx_x3=>?_;refine Q.bindP (Z49_eq _ _) fun x5 hx_x5=>?_;all_goals rfl
def Z58_q7 (a0:TDoc) (a1:(Sl TInput)) (a2:Bs) (a3:Bs):List TInput->Nat->(Sl TFault)->Option ((Sl TFault))
 | [],s10_9,s9_8=>some s9_8
 | h7::r7,s10_9,s9_8=>on (h7) fun x17=>(catC a2 x17.FName).bind fun x18=>(catC x18 a3).bind fun x19=>on ((⟨a1.nl,a1.l.take s10_9⟩:Sl TInput)) fun x21=>on (h7) fun x22=>on (Z46_q x21 x22.FName) fun x23=>on (h7) fun x25=>(Z61_q x25.FName false x23.2 x19).bind fun x26=>(appC 24 s9_8 x26).bind fun x27=>on (h7) fun x29=>on (Z59_q a0 x29.FType.FName) fun x30=>Option.bind (bif (!x30) then((appC 24 x27 (⟨false,[(TFault.mk (8:Int) x19)]⟩:Sl TFault)).bind fun x32=>some x32) else(on (h7) fun x34=>on (Z47_q a0 x34.FType.FName) fun x35=>bif (!x35) then((appC 24 x27 (⟨false,[(TFault.mk (10:Int) x19)]⟩:Sl TFault)).bind fun x37=>some x37) else(some x27))) fun s9_15=>Z58_q7 a0 a1 a2 a3 (r7) (s10_9+1) s9_15
theorem Z58_l7_qe {a0:TDoc}{a1:(Sl TInput)}{a2:Bs}{a3:Bs}  (Kb7:((Sl TFault))->Option (Sl TFault)) (hend:∀(n7:Nat) (s9_8:(Sl TFault)) (s10_9:Nat),Z58_j3   s9_8=Kb7 s9_8):∀(n7:Nat) (s9_8:(Sl TFault)) (s10_9:Nat),(0<n7/\a1.l.length<s10_9+n7)->Z58_l7 a0 a1 a2 a3 n7 s9_8 s10_9=Option.bind (Z58_q7 a0 a1 a2 a3 (a1.l.drop s10_9) s10_9 s9_8) Kb7:=by
 intro n7;induction n7 with
 | zero=>intro s9_8 s10_9 hn; exact absurd hn.1 (by omega)
 | succ n7 ih7 =>
  intro s9_8 s10_9 hn;rw [Z58_l7];by_cases hlt:s10_9<a1.l.length
  ·obtain⟨h7,hh7⟩:∃x,a1.l[s10_9]?=some x:=⟨_,List.getElem?_eq_getElem hlt⟩;rw [Q.drop_of hh7,Z58_q7];refine Q.condT (Q.ltT hlt) ?_;refine Q.bindPO hh7 fun x17 hx_x17=>?_;refine Q.bindO rfl fun x18=>?_;refine Q.bindO rfl fun x19=>?_;refine Q.bindPO (Q.partC_take (by omega)) fun x21 hx_x21=>?_;refine Q.bindPO hh7 fun x22 hx_x22=>?_;refine Q.bindPO (Z46_eq _ _) fun x23 hx_x23=>?_;refine Q.bindPO hh7 fun x25 hx_x25=>?_
   refine Q.bindO (Z61_eq _ _ _ _) fun x26=>?_;refine Q.bindO rfl fun x27=>?_;refine Q.bindPO hh7 fun x29 hx_x29=>?_;refine Q.bindPO (Z59_eq _ _) fun x30 hx_x30=>?_;refine Q.wrapOO fun Kj14 hKj14=>?_;have hj14:∀(s9_15:(Sl TFault)),Z58_j14 s10_9 (Z58_l7 a0 a1 a2 a3 n7) s9_15=Kj14 s9_15:=by
    intro s9_15;refine Eq.trans ?_ (hKj14 _).symm;unfold Z58_j14;all_goals exact ih7 _ _ ⟨by omega,by omega⟩
   refine Q.condO ?_ ?_
   ·refine Q.bindO rfl fun x32=>?_;all_goals exact hj14 _
   refine Q.bindPO hh7 fun x34 hx_x34=>?_;refine Q.bindPO (Z47_eq _ _) fun x35 hx_x35=>?_;refine Q.condO ?_ ?_
   ·refine Q.bindO rfl fun x37=>?_;all_goals exact hj14 _
   all_goals exact hj14 _
  rw [List.drop_of_length_le (by omega),Z58_q7];refine Q.condF (Q.ltF hlt) ?_;exact hend n7 s9_8 s10_9
def Z58_q (a0:TDoc) (a1:(Sl TInput)) (a2:Bs) (a3:Bs):Option (Sl TFault):=Option.bind (Z58_q7 a0 a1 a2 a3 a1.l 0 (Sl.nil:Sl TFault)) fun s9_8=>on (s9_8) fun s9_4=>some s9_4
theorem Z58_eq (a0:TDoc) (a1:(Sl TInput)) (a2:Bs) (a3:Bs):Z58 a0 a1 a2 a3=Z58_q a0 a1 a2 a3:=by
 unfold Z58 Z58_q;refine Eq.trans ?_ (Q.some_bind _);refine Q.wrapOO fun Kb7 hKb7=>?_;refine Z58_l7_qe  Kb7 ?_ _ _ _ ⟨Nat.succ_pos _,by omega⟩;intro n7 s9_8 s10_9;refine Eq.trans ?_ (hKb7 _).symm;refine Q.wrapPO fun Kj3 hKj3=>?_;have hj3:∀(s9_4:(Sl TFault)),Z58_j3  s9_4=Kj3 s9_4:=by
  intro s9_4;refine Eq.trans ?_ (hKj3 _).symm;unfold Z58_j3;all_goals rfl
 all_goals exact hj3 _
def Z44_q6 (a1:Bs):List TField->Unit ⊕ ((TField×Bool))
 | []=>Sum.inl ()
 | h6::r6=>on (h6) fun x15=>bif ((x15.FName==a1)) then(on (h6) fun x18=>Sum.inr (x18,true)) else(Z44_q6 a1 (r6) )
theorem Z44_l6_qe {a0:TDef}{a1:Bs}  (Kb6:(Unit ⊕ ((TField×Bool)))->Option (TField×Bool)) (hend:∀(n6:Nat) (s6_7:Nat) (y8_l0:TField),Z44_j2   y8_l0=Kb6 (Sum.inl ())) (hret:∀e:(TField×Bool),some e=Kb6 (Sum.inr e)):∀(n6:Nat) (s6_7:Nat) (y8_l0:TField),(0<n6/\a0.FFields.l.length<s6_7+n6)->Z44_l6 a0 a1 n6 s6_7 y8_l0=Kb6 (Z44_q6 a1 (a0.FFields.l.drop s6_7) ):=by
 intro n6;induction n6 with
 | zero=>intro s6_7 y8_l0 hn; exact absurd hn.1 (by omega)
 | succ n6 ih6 =>
  intro s6_7 y8_l0 hn;rw [Z44_l6];by_cases hlt:s6_7<a0.FFields.l.length
  ·obtain⟨h6,hh6⟩:∃x,a0.FFields.l[s6_7]?=some x:=⟨_,List.getElem?_eq_getElem hlt⟩;rw [Q.drop_of hh6,Z44_q6];refine Q.condT (Q.ltT hlt) ?_;refine Q.bindP hh6 fun x15 hx_x15=>?_;refine Q.condP ?_ ?_
   ·refine Q.bindP hh6 fun x18 hx_x18=>?_;all_goals exact hret _
   all_goals exact ih6 _ _ ⟨by omega,by omega⟩
  rw [List.drop_of_length_le (by omega),Z44_q6];refine Q.condF (Q.ltF hlt) ?_;exact hend n6 s6_7 y8_l0
def Z44_q (a0:TDef) (a1:Bs):(TField×Bool):=on (Z44_q6 a1 a0.FFields.l ) fun o6=>match o6 with|Sum.inl _=>(on (()) fun _=>((TField.mk ([]:Bs) (Sl.nil:Sl TInput) TRef.zero (Sl.nil:Sl TDir)),false))|Sum.inr e6=>(e6)
theorem Z44_eq (a0:TDef) (a1:Bs):Z44 a0 a1=some (Z44_q a0 a1):=by
 unfold Z44 Z44_q;refine Q.wrapPP fun Kb6 hKb6=>?_;refine Z44_l6_qe  Kb6 ?_ ?_ _ _ _ ⟨Nat.succ_pos _,by omega⟩
 ·intro n6 s6_7 y8_l0;refine Eq.trans ?_ (hKb6 _).symm;try dsimp only
  refine Q.wrapPP fun Kj2 hKj2=>?_;have hj2:∀(y3_l0:TField),Z44_j2  y3_l0=Kj2 ():=by
   intro y3_l0;refine Eq.trans ?_ (hKj2 _).symm;unfold Z44_j2;all_goals rfl
  all_goals exact hj2 _
 intro e6;refine Eq.trans ?_ (hKb6 _).symm;try dsimp only
 all_goals rfl
def Z56_q7 (a0:TDoc) (a1:TDef):List TField->Nat->(Sl TFault)->Option ((Sl TFault))
 | [],s6_9,s5_8=>some s5_8
 | h7::r7,s6_9,s5_8=>on (h7) fun x17=>(catC a1.FName ([46]:Bs)).bind fun x19=>(catC x19 x17.FName).bind fun x20=>on ((⟨a1.FFields.nl,a1.FFields.l.take s6_9⟩:Sl TField)) fun x22=>on (Z44_q (TDef.mk (0:Int) ([]:Bs) (Sl.nil:Sl Bs) (Sl.nil:Sl TDir) x22 (Sl.nil:Sl TMember) (Sl.nil:Sl TInput)) x17.FName) fun x23=>(Z61_q x17.FName false x23.2 x20).bind fun x25=>(appC 24 s5_8 x25).bind fun x26=>on (Z45_q a0 x17.FType.FName) fun x28=>on (Z59_q a0 x17.FType.FName) fun x35=>Option.bind (bif (!x35) then((appC 24 x26 (⟨false,[(TFault.mk (8:Int) x20)]⟩:Sl TFault)).bind fun x37=>some x37) else(on (Z51_q x17.FType.FName) fun x39=>bif (((!x39)&&x28.2)&&(decide (x28.1.FKind=(5:Int)))) then((appC 24 x26 (⟨false,[(TFault.mk (10:Int) x20)]⟩:Sl TFault)).bind fun x41=>some x41) else(some x26))) fun s5_30=>(catC x20 ([40]:Bs)).bind fun x31=>(Z58_q a0 x17.FArgs x31 ([41]:Bs)).bind fun x32=>(appC 24 s5_30 x32).bind fun x33=>on (x33) fun s5_15=>Z56_q7 a0 a1 (r7) (s6_9+1) s5_15
theorem Z56_l7_qe {a0:TDoc}{a1:TDef}  (Kb7:((Sl TFault))->Option (Sl TFault)) (hend:∀(n7:Nat) (s5_8:(Sl TFault)) (s6_9:Nat),Z56_j3   s5_8=Kb7 s5_8):∀(n7:Nat) (s5_8:(Sl TFault)) (s6_9:Nat),(0<n7/\a1.FFields.l.length<s6_9+n7)->Z56_l7 a0 a1 n7 s5_8 s6_9=Option.bind (Z56_q7 a0 a1 (a1.FFields.l.drop s6_9) s6_9 s5_8) Kb7:=by
 intro n7;induction n7 with
 | zero=>intro s5_8 s6_9 hn; exact absurd hn.1 (by omega)
 | succ n7 ih7 =>
  intro s5_8 s6_9 hn;rw [Z56_l7];by_cases hlt:s6_9<a1.FFields.l.length
  ·obtain⟨h7,hh7⟩:∃x,a1.FFields.l[s6_9]?=some x:=⟨_,List.getElem?_eq_getElem hlt⟩;rw [Q.drop_of hh7,Z56_q7];refine Q.condT (Q.ltT hlt) ?_;refine Q.bindPO hh7 fun x17 hx_x17=>?_;refine Q.bindO rfl fun x19=>?_;refine Q.bindO rfl fun x20=>?_;refine Q.bindPO (Q.partC_take (by omega)) fun x22 hx_x22=>?_;refine Q.bindPO (Z44_eq _ _) fun x23 hx_x23=>?_;refine Q.bindO (Z61_eq _ _ _ _) fun x25=>?_;refine Q.bindO rfl fun x26=>?_
   refine Q.bindPO (Z45_eq _ _) fun x28 hx_x28=>?_;refine Q.bindPO (Z59_eq _ _) fun x35 hx_x35=>?_;refine Q.wrapOO fun Kj29 hKj29=>?_;have hj29:∀(s5_30:(Sl TFault)),Z56_j29 a0 s6_9 x17 x20 (Z56_l7 a0 a1 n7) s5_30=Kj29 s5_30:=by
    intro s5_30;refine Eq.trans ?_ (hKj29 _).symm;unfold Z56_j29;refine Q.bindO rfl fun x31=>?_;refine Q.bindO (Z58_eq _ _ _ _) fun x32=>?_;refine Q.bindO rfl fun x33=>?_;refine Q.wrapPO fun Kj14 hKj14=>?_;have hj14:∀(s5_15:(Sl TFault)),Z56_j14 s6_9 (Z56_l7 a0 a1 n7) s5_15=Kj14 s5_15:=by
     intro s5_15;refine Eq.trans ?_ (hKj14 _).symm;unfold Z56_j14;all_goals exact ih7 _ _ ⟨by omega,by omega⟩
    all_goals exact hj14 _
   refine Q.condO ?_ ?_
   ·refine Q.bindO rfl fun x37=>?_;all_goals exact hj29 _
   refine Q.bindPO (Z51_eq _) fun x39 hx_x39=>?_;refine Q.condO ?_ ?_
   ·refine Q.bindO rfl fun x41=>?_;all_goals exact hj29 _
   all_goals exact hj29 _
  rw [List.drop_of_length_le (by omega),Z56_q7];refine Q.condF (Q.ltF hlt) ?_;exact hend n7 s5_8 s6_9
def Z56_q (a0:TDoc) (a1:TDef):Option (Sl TFault):=Option.bind (Z56_q7 a0 a1 a1.FFields.l 0 (Sl.nil:Sl TFault)) fun s5_8=>on (s5_8) fun s5_4=>some s5_4
theorem Z56_eq (a0:TDoc) (a1:TDef):Z56 a0 a1=Z56_q a0 a1:=by
 unfold Z56 Z56_q;refine Eq.trans ?_ (Q.some_bind _);refine Q.wrapOO fun Kb7 hKb7=>?_;refine Z56_l7_qe  Kb7 ?_ _ _ _ ⟨Nat.succ_pos _,by omega⟩;intro n7 s5_8 s6_9;refine Eq.trans ?_ (hKb7 _).symm;refine Q.wrapPO fun Kj3 hKj3=>?_;have hj3:∀(s5_4:(Sl TFault)),Z56_j3  s5_4=Kj3 s5_4:=by
  intro s5_4;refine Eq.trans ?_ (hKj3 _).symm;unfold Z56_j3;all_goals rfl
 all_goals exact hj3 _
def Z60_q26 (a0:TDef) (x17:TMember):Nat->Nat->Bool->Option (Bool)
 | 0,s7_28,s6_27=>some s6_27
 | r26+1,s7_28,s6_27=>guardO (!s6_27) (a0.FMembers.l[s7_28]?) TMember.zero fun x33=>Z60_q26 a0 x17 (r26) (s7_28+1) (s6_27||((x33.FName==x17.FName)))
theorem Z60_l26_qe {a0:TDef}{s3_8:(Sl TFault)}{s4_9:Nat}{x17:TMember}{k_next_7:(Sl TFault)->Nat->Option (Sl TFault)}  (Kb26:(Bool)->Option (Sl TFault)) (hend:∀(n26:Nat) (s6_27:Bool) (s7_28:Nat),Z60_j19 a0 s3_8 s4_9 x17 k_next_7 s6_27=Kb26 s6_27):∀(n26:Nat) (s6_27:Bool) (s7_28:Nat),(0<n26/\s4_9<s7_28+n26)->Z60_l26 a0 s3_8 s4_9 x17 k_next_7 n26 s6_27 s7_28=Option.bind (Z60_q26 a0 x17 (s4_9-s7_28) s7_28 s6_27) Kb26:=by
 intro n26;induction n26 with
 | zero=>intro s6_27 s7_28 hn; exact absurd hn.1 (by omega)
 | succ n26 ih26 =>
  intro s6_27 s7_28 hn;rw [Z60_l26];by_cases hlt:s7_28<s4_9
  ·rw [show s4_9-s7_28=(s4_9-(s7_28+1))+1 by omega,Z60_q26];refine Q.condT (Q.ltT hlt) ?_;refine Q.guardOO rfl fun x33=>?_;all_goals exact ih26 _ _ ⟨by omega,by omega⟩
  rw [show s4_9-s7_28=0 by omega,Z60_q26];refine Q.condF (Q.ltF hlt) ?_;exact hend n26 s6_27 s7_28
def Z60_q7 (a0:TDef):List TMember->Nat->(Sl TFault)->Option ((Sl TFault))
 | [],s4_9,s3_8=>some s3_8
 | h7::r7,s4_9,s3_8=>on (h7) fun x17=>Option.bind (Z60_q26 a0 x17 s4_9 0 false) fun s6_27=>on (s6_27) fun s6_20=>(catC a0.FName ([46]:Bs)).bind fun x21=>(catC x21 x17.FName).bind fun x22=>(Z61_q x17.FName ((((x17.FName==([116,114,117,101]:Bs)))||((x17.FName==([102,97,108,115,101]:Bs))))||((x17.FName==([110,117,108,108]:Bs)))) s6_20 x22).bind fun x23=>(appC 24 s3_8 x23).bind fun x24=>on (x24) fun s3_15=>Z60_q7 a0 (r7) (s4_9+1) s3_15
theorem Z60_l7_qe {a0:TDef}  (Kb7:((Sl TFault))->Option (Sl TFault)) (hend:∀(n7:Nat) (s3_8:(Sl TFault)) (s4_9:Nat),Z60_j3   s3_8=Kb7 s3_8):∀(n7:Nat) (s3_8:(Sl TFault)) (s4_9:Nat),(0<n7/\a0.FMembers.l.length<s4_9+n7)->Z60_l7 a0 n7 s3_8 s4_9=Option.bind (Z60_q7 a0 (a0.FMembers.l.drop s4_9) s4_9 s3_8) Kb7:=by
 intro n7;induction n7 with
 | zero=>intro s3_8 s4_9 hn; exact absurd hn.1 (by omega)
 | succ n7 ih7 =>
  intro s3_8 s4_9 hn;rw [Z60_l7];by_cases hlt:s4_9<a0.FMembers.l.length
  ·obtain⟨h7,hh7⟩:∃x,a0.FMembers.l[s4_9]?=some x:=⟨_,List.getElem?_eq_getElem hlt⟩;rw [Q.drop_of hh7,Z60_q7];refine Q.condT (Q.ltT hlt) ?_;refine Q.bindPO hh7 fun x17 hx_x17=>?_;refine Q.wrapOO fun Kb26 hKb26=>?_;refine Z60_l26_qe  Kb26 ?_ _ _ _ ⟨Nat.succ_pos _,by omega⟩;intro n26 s6_27 s7_28;refine Eq.trans ?_ (hKb26 _).symm;refine Q.wrapPO fun Kj19 hKj19=>?_;have hj19:∀(s6_20:Bool),Z60_j19 a0 s3_8 s4_9 x17 (Z60_l7 a0 n7) s6_20=Kj19 s6_20:=by
    intro s6_20;refine Eq.trans ?_ (hKj19 _).symm;unfold Z60_j19;refine Q.bindO rfl fun x21=>?_;refine Q.bindO rfl fun x22=>?_;refine Q.bindO (Z61_eq _ _ _ _) fun x23=>?_;refine Q.bindO rfl fun x24=>?_;refine Q.wrapPO fun Kj14 hKj14=>?_;have hj14:∀(s3_15:(Sl TFault)),Z60_j14 s4_9 (Z60_l7 a0 n7) s3_15=Kj14 s3_15:=by
     intro s3_15;refine Eq.trans ?_ (hKj14 _).symm;unfold Z60_j14;all_goals exact ih7 _ _ ⟨by omega,by omega⟩
    all_goals exact hj14 _
   all_goals exact hj19 _
  rw [List.drop_of_length_le (by omega),Z60_q7];refine Q.condF (Q.ltF hlt) ?_;exact hend n7 s3_8 s4_9
def Z60_q (a0:TDef):Option (Sl TFault):=Option.bind (Z60_q7 a0 a0.FMembers.l 0 (Sl.nil:Sl TFault)) fun s3_8=>on (s3_8) fun s3_4=>some s3_4
theorem Z60_eq (a0:TDef):Z60 a0=Z60_q a0:=by
 unfold Z60 Z60_q;refine Eq.trans ?_ (Q.some_bind _);refine Q.wrapOO fun Kb7 hKb7=>?_;refine Z60_l7_qe  Kb7 ?_ _ _ _ ⟨Nat.succ_pos _,by omega⟩;intro n7 s3_8 s4_9;refine Eq.trans ?_ (hKb7 _).symm;refine Q.wrapPO fun Kj3 hKj3=>?_;have hj3:∀(s3_4:(Sl TFault)),Z60_j3  s3_4=Kj3 s3_4:=by
  intro s3_4;refine Eq.trans ?_ (hKj3 _).symm;unfold Z60_j3;all_goals rfl
 all_goals exact hj3 _
def Z41_q14 (a0:TDoc):List TDef->Nat->(Sl TFault)->Option ((Sl TFault))
 | [],s6_16,s5_15=>some s5_15
 | h14::r14,s6_16,s5_15=>on (h14) fun x24=>(Z63_q a0 ((s6_16:Nat):Int)).bind fun x26=>(appC 24 s5_15 x26).bind fun x27=>on (bif (decide (x24.FKind=(1:Int))) then((decide (x24.FKind=(1:Int)))) else((decide (x24.FKind=(2:Int))))) fun s29_30=>Option.bind (bif s29_30 then((Z56_q a0 x24).bind fun x32=>(appC 24 x27 x32).bind fun x33=>some x33) else(bif (decide (x24.FKind=(4:Int))) then((Z60_q x24).bind fun x36=>(appC 24 x27 x36).bind fun x37=>some x37) else(bif (decide (x24.FKind=(5:Int))) then((catC x24.FName ([46]:Bs)).bind fun x40=>(Z58_q a0 x24.FInputs x40 ([]:Bs)).bind fun x41=>(appC 24 x27 x41).bind fun x42=>some x42) else(some x27)))) fun s5_22=>Z41_q14 a0 (r14) (s6_16+1) s5_22
theorem Z41_l14_qe {a0:TDoc}{a1:Bool}  (Kb14:((Sl TFault))->Option (Sl TFault)) (hend:∀(n14:Nat) (s5_15:(Sl TFault)) (s6_16:Nat),Z41_j3 a0 a1  s5_15=Kb14 s5_15):∀(n14:Nat) (s5_15:(Sl TFault)) (s6_16:Nat),(0<n14/\a0.FDefs.l.length<s6_16+n14)->Z41_l14 a0 a1 n14 s5_15 s6_16=Option.bind (Z41_q14 a0 (a0.FDefs.l.drop s6_16) s6_16 s5_15) Kb14:=by
 intro n14;induction n14 with
 | zero=>intro s5_15 s6_16 hn; exact absurd hn.1 (by omega)
 | succ n14 ih14 =>
  intro s5_15 s6_16 hn;rw [Z41_l14];by_cases hlt:s6_16<a0.FDefs.l.length
  ·obtain⟨h14,hh14⟩:∃x,a0.FDefs.l[s6_16]?=some x:=⟨_,List.getElem?_eq_getElem hlt⟩;rw [Q.drop_of hh14,Z41_q14];refine Q.condT (Q.ltT hlt) ?_;refine Q.bindPO hh14 fun x24 hx_x24=>?_;refine Q.bindO (Z63_eq _ _) fun x26=>?_;refine Q.bindO rfl fun x27=>?_;refine Q.wrapPO fun Kj29 hKj29=>?_;have hj29:∀(s29_30:Bool),Z41_j29 a0 s6_16 x24 x27 (Z41_l14 a0 a1 n14) s29_30=Kj29 s29_30:=by
    intro s29_30;refine Eq.trans ?_ (hKj29 _).symm;unfold Z41_j29;refine Q.wrapOO fun Kj21 hKj21=>?_;have hj21:∀(s5_22:(Sl TFault)),Z41_j21 s6_16 (Z41_l14 a0 a1 n14) s5_22=Kj21 s5_22:=by
     intro s5_22;refine Eq.trans ?_ (hKj21 _).symm;unfold Z41_j21;all_goals exact ih14 _ _ ⟨by omega,by omega⟩
    refine Q.condO ?_ ?_
    ·refine Q.bindO (Z56_eq _ _) fun x32=>?_;refine Q.bindO rfl fun x33=>?_;all_goals exact hj21 _
    refine Q.condO ?_ ?_
    ·refine Q.bindO (Z60_eq _) fun x36=>?_;refine Q.bindO rfl fun x37=>?_;all_goals exact hj21 _
    refine Q.condO ?_ ?_
    ·refine Q.bindO rfl fun x40=>?_;refine Q.bindO (Z58_eq _ _ _ _) fun x41=>?_;refine Q.bindO rfl fun x42=>?_;all_goals exact hj21 _
    all_goals exact hj21 _
   refine Q.condP ?_ ?_
   ·all_goals exact hj29 _
   all_goals exact hj29 _
  rw [List.drop_of_length_le (by omega),Z41_q14];refine Q.condF (Q.ltF hlt) ?_;exact hend n14 s5_15 s6_16
def Z41_q (a0:TDoc) (a1:Bool):Option (Sl TFault):=Option.bind (Z41_q14 a0 a0.FDefs.l 0 (Sl.nil:Sl TFault)) fun s5_15=>on (s5_15) fun s5_4=>on (Z45_q a0 ([81,117,101,114,121]:Bs)) fun x6=>Option.bind (bif (a1&&(!x6.2)) then((appC 24 s5_4 (⟨false,[(TFault.mk (30:Int) ([81,117,101,114,121]:Bs))]⟩:Sl TFault)).bind fun x12=>some x12) else(some s5_4)) fun s5_8=>some s5_8
theorem Z41_eq (a0:TDoc) (a1:Bool):Z41 a0 a1=Z41_q a0 a1:=by
 unfold Z41 Z41_q;refine Eq.trans ?_ (Q.some_bind _);refine Q.wrapOO fun Kb14 hKb14=>?_;refine Z41_l14_qe  Kb14 ?_ _ _ _ ⟨Nat.succ_pos _,by omega⟩;intro n14 s5_15 s6_16;refine Eq.trans ?_ (hKb14 _).symm;refine Q.wrapPO fun Kj3 hKj3=>?_;have hj3:∀(s5_4:(Sl TFault)),Z41_j3 a0 a1 s5_4=Kj3 s5_4:=by
  intro s5_4;refine Eq.trans ?_ (hKj3 _).symm;unfold Z41_j3;refine Q.bindPO (Z45_eq _ _) fun x6 hx_x6=>?_;refine Q.wrapOO fun Kj7 hKj7=>?_;have hj7:∀(s5_8:(Sl TFault)),Z41_j7  s5_8=Kj7 s5_8:=by
   intro s5_8;refine Eq.trans ?_ (hKj7 _).symm;unfold Z41_j7;all_goals rfl
  refine Q.condO ?_ ?_
  ·refine Q.bindO rfl fun x12=>?_;all_goals exact hj7 _
  all_goals exact hj7 _
 all_goals exact hj3 _
def Z72_q (a0:TDoc) (a1:Bs) (a2:Int):Int:=on (Z45_q a0 a1) fun x3=>on (bif (!x3.2) then Z51_q a1 else false) fun x6=>bif ((!x3.2)&&(!x6)) then((8:Int)) else(bif (!decide (x3.1.FKind=a2)) then((9:Int)) else((0:Int)))
theorem Z72_eq (a0:TDoc) (a1:Bs) (a2:Int):Z72 a0 a1 a2=some (Z72_q a0 a1 a2):=by
 unfold Z72 Z72_q;refine Q.bindP (Z45_eq _ _) fun x3 hx_x3=>?_;refine Q.guardP (Z51_eq _) fun x6 hx_x6=>?_;refine Q.condP ?_ ?_
 ·all_goals rfl
 refine Q.condP ?_ ?_
 ·all_goals rfl
 all_goals rfl
def Z71_q5 (a1:Bs):List Bs->Unit ⊕ Bool
 | []=>Sum.inl ()
 | h5::r5=>on (h5) fun x13=>bif ((x13==a1)) then(Sum.inr true) else(Z71_q5 a1 (r5) )
theorem Z71_l5_qe {a0:(Sl Bs)}{a1:Bs}  (Kb5:(Unit ⊕ Bool)->Option Bool) (hend:∀(n5:Nat) (s5_6:Nat),Z71_j2   =Kb5 (Sum.inl ())) (hret:∀e:Bool,some e=Kb5 (Sum.inr e)):∀(n5:Nat) (s5_6:Nat),(0<n5/\a0.l.length<s5_6+n5)->Z71_l5 a0 a1 n5 s5_6=Kb5 (Z71_q5 a1 (a0.l.drop s5_6) ):=by
 intro n5;induction n5 with
 | zero=>intro s5_6 hn; exact absurd hn.1 (by omega)
 | succ n5 ih5 =>
  intro s5_6 hn;rw [Z71_l5];by_cases hlt:s5_6<a0.l.length
  ·obtain⟨h5,hh5⟩:∃x,a0.l[s5_6]?=some x:=⟨_,List.getElem?_eq_getElem hlt⟩;rw [Q.drop_of hh5,Z71_q5];refine Q.condT (Q.ltT hlt) ?_;refine Q.bindP hh5 fun x13 hx_x13=>?_;refine Q.condP ?_ ?_
   ·all_goals exact hret _
   all_goals exact ih5 _ ⟨by omega,by omega⟩
  rw [List.drop_of_length_le (by omega),Z71_q5];refine Q.condF (Q.ltF hlt) ?_;exact hend n5 s5_6
def Z71_q (a0:(Sl Bs)) (a1:Bs):Bool:=on (Z71_q5 a1 a0.l ) fun o5=>match o5 with|Sum.inl _=>(on (()) fun _=>false)|Sum.inr e5=>(e5)
theorem Z71_eq (a0:(Sl Bs)) (a1:Bs):Z71 a0 a1=some (Z71_q a0 a1):=by
 unfold Z71 Z71_q;refine Q.wrapPP fun Kb5 hKb5=>?_;refine Z71_l5_qe  Kb5 ?_ ?_ _ _ ⟨Nat.succ_pos _,by omega⟩
 ·intro n5 s5_6;refine Eq.trans ?_ (hKb5 _).symm;try dsimp only
  refine Q.wrapPP fun Kj2 hKj2=>?_;have hj2:Z71_j2  =Kj2 ():=by
   refine Eq.trans ?_ (hKj2 _).symm;unfold Z71_j2;all_goals rfl
  all_goals exact hj2
 intro e5;refine Eq.trans ?_ (hKb5 _).symm;try dsimp only
 all_goals rfl
def Z28_q (a0:TRef):Bool:=on (bif (decide ((0:Int)<((a0.FWraps.l.length:Nat):Int))) then((a0.FWraps.l)[0]?.getD (0:Int)) else(0:Int)) fun x4=>((decide ((0:Int)<((a0.FWraps.l.length:Nat):Int)))&&(decide (x4=(1:Int))))
theorem Z28_eq (a0:TRef):Z28 a0=some (Z28_q a0):=by
 unfold Z28 Z28_q;refine Q.guardT (fun hc=>Q.getD_some (by simp at hc; omega)) fun x4 hx_x4=>?_;all_goals rfl
def Z32_q (a0:TRef):Option TRef:=(partC a0.FWraps (some (1:Int)) none).bind fun x3=>(appC 8 (⟨false,[]⟩:Sl Int) x3).bind fun x4=>some (TRef.mk a0.FName x4)
theorem Z32_eq (a0:TRef):Z32 a0=Z32_q a0:=by
 unfold Z32 Z32_q;refine Eq.trans ?_ (Q.some_bind _);refine Q.bindO rfl fun x3=>?_;refine Q.bindO rfl fun x4=>?_;all_goals rfl
def Z29_q (a0:TRef):Option TRef:=on (Z28_q a0) fun x4=>bif x4 then((Z32_q a0).bind fun x7=>some x7) else((appC 8 (⟨false,[]⟩:Sl Int) a0.FWraps).bind fun x9=>some (TRef.mk a0.FName x9))
theorem Z29_eq (a0:TRef):Z29 a0=Z29_q a0:=by
 unfold Z29 Z29_q;refine Eq.trans ?_ (Q.some_bind _);refine Q.bindPO (Z28_eq _) fun x4 hx_x4=>?_;refine Q.condO ?_ ?_
 ·refine Q.bindO (Z32_eq _) fun x7=>?_;all_goals rfl
 refine Q.bindO rfl fun x9=>?_;all_goals rfl
def Z27_q (a0:TRef):Option Bool:=(Z29_q a0).bind fun x3=>on (bif (decide ((0:Int)<((x3.FWraps.l.length:Nat):Int))) then((x3.FWraps.l)[0]?.getD (0:Int)) else(0:Int)) fun x6=>some ((decide ((0:Int)<((x3.FWraps.l.length:Nat):Int)))&&(decide (x6=(2:Int))))
theorem Z27_eq (a0:TRef):Z27 a0=Z27_q a0:=by
 unfold Z27 Z27_q;refine Eq.trans ?_ (Q.some_bind _);refine Q.bindO (Z29_eq _) fun x3=>?_;refine Q.guardTO (fun hc=>Q.getD_some (by simp at hc; omega)) fun x6 hx_x6=>?_;all_goals rfl
def Z26_q (a0:TRef):Option (TRef×Bool):=(Z27_q a0).bind fun x4=>bif (!x4) then(some ((TRef.mk ([]:Bs) (Sl.nil:Sl Int)),false)) else((Z29_q a0).bind fun x8=>(Z32_q x8).bind fun x9=>some (x9,true))
theorem Z26_eq (a0:TRef):Z26 a0=Z26_q a0:=by
 unfold Z26 Z26_q;refine Eq.trans ?_ (Q.some_bind _);refine Q.bindO (Z27_eq _) fun x4=>?_;refine Q.condO ?_ ?_
 ·all_goals rfl
 refine Q.bindO (Z29_eq _) fun x8=>?_;refine Q.bindO (Z32_eq _) fun x9=>?_;all_goals rfl
def Z73_q5 (a1:Bs):List TMember->Unit ⊕ Bool
 | []=>Sum.inl ()
 | h5::r5=>on (h5) fun x13=>bif ((x13.FName==a1)) then(Sum.inr true) else(Z73_q5 a1 (r5) )
theorem Z73_l5_qe {a0:TDef}{a1:Bs}  (Kb5:(Unit ⊕ Bool)->Option Bool) (hend:∀(n5:Nat) (s5_6:Nat),Z73_j2   =Kb5 (Sum.inl ())) (hret:∀e:Bool,some e=Kb5 (Sum.inr e)):∀(n5:Nat) (s5_6:Nat),(0<n5/\a0.FMembers.l.length<s5_6+n5)->Z73_l5 a0 a1 n5 s5_6=Kb5 (Z73_q5 a1 (a0.FMembers.l.drop s5_6) ):=by
 intro n5;induction n5 with
 | zero=>intro s5_6 hn; exact absurd hn.1 (by omega)
 | succ n5 ih5 =>
  intro s5_6 hn;rw [Z73_l5];by_cases hlt:s5_6<a0.FMembers.l.length
  ·obtain⟨h5,hh5⟩:∃x,a0.FMembers.l[s5_6]?=some x:=⟨_,List.getElem?_eq_getElem hlt⟩;rw [Q.drop_of hh5,Z73_q5];refine Q.condT (Q.ltT hlt) ?_;refine Q.bindP hh5 fun x13 hx_x13=>?_;refine Q.condP ?_ ?_
   ·all_goals exact hret _
   all_goals exact ih5 _ ⟨by omega,by omega⟩
  rw [List.drop_of_length_le (by omega),Z73_q5];refine Q.condF (Q.ltF hlt) ?_;exact hend n5 s5_6
def Z73_q (a0:TDef) (a1:Bs):Bool:=on (Z73_q5 a1 a0.FMembers.l ) fun o5=>match o5 with|Sum.inl _=>(on (()) fun _=>false)|Sum.inr e5=>(e5)
theorem Z73_eq (a0:TDef) (a1:Bs):Z73 a0 a1=some (Z73_q a0 a1):=by
 unfold Z73 Z73_q;refine Q.wrapPP fun Kb5 hKb5=>?_;refine Z73_l5_qe  Kb5 ?_ ?_ _ _ ⟨Nat.succ_pos _,by omega⟩
 ·intro n5 s5_6;refine Eq.trans ?_ (hKb5 _).symm;try dsimp only
  refine Q.wrapPP fun Kj2 hKj2=>?_;have hj2:Z73_j2  =Kj2 ():=by
   refine Eq.trans ?_ (hKj2 _).symm;unfold Z73_j2;all_goals rfl
  all_goals exact hj2
 intro e5;refine Eq.trans ?_ (hKb5 _).symm;try dsimp only
 all_goals rfl
def Z70_q (a0:TDoc) (a1:Int):Option Bool:=Z70 a0 a1
theorem Z70_eq (a0:TDoc) (a1:Int):Z70 a0 a1=Z70_q a0 a1:=rfl
def Z67_q9 (a0:TDoc) (a1:Bs) (x4:(TDef×Bool)):List TDef->Nat->(Sl Bs)->Option ((Sl Bs))
 | [],s8_11,s5_10=>some s5_10
 | h9::r9,s8_11,s5_10=>bif x4.2 then(on (h9) fun x19=>guardO (!(!decide (x19.FKind=(1:Int)))) (Z70_q a0 ((s8_11:Nat):Int)) false fun x22=>Option.bind (bif ((!decide (x19.FKind=(1:Int)))||(!x22)) then(some s5_10) else(on (bif (!((decide (x4.1.FKind=(1:Int)))&&((x19.FName==a1)))&&(decide (x4.1.FKind=(2:Int)))) then Z71_q x19.FImplements a1 else false) fun x26=>on (bif (!(((decide (x4.1.FKind=(1:Int)))&&((x19.FName==a1)))||((decide (x4.1.FKind=(2:Int)))&&x26))&&(decide (x4.1.FKind=(3:Int)))) then Z73_q x4.1 x19.FName else false) fun x28=>bif ((((decide (x4.1.FKind=(1:Int)))&&((x19.FName==a1)))||((decide (x4.1.FKind=(2:Int)))&&x26))||((decide (x4.1.FKind=(3:Int)))&&x28)) then((appC 16 s5_10 (⟨false,[x19.FName]⟩:Sl Bs)).bind fun x31=>some x31) else(some s5_10))) fun s5_17=>Z67_q9 a0 a1 x4 (r9) (s8_11+1) s5_17) else(some s5_10)
theorem Z67_l9_qe {a0:TDoc}{a1:Bs}{x4:(TDef×Bool)}  (Kb9:((Sl Bs))->Option (Sl Bs)) (hend:∀(n9:Nat) (s5_10:(Sl Bs)) (s8_11:Nat),Z67_j5   s5_10=Kb9 s5_10):∀(n9:Nat) (s5_10:(Sl Bs)) (s8_11:Nat),(0<n9/\a0.FDefs.l.length<s8_11+n9)->Z67_l9 a0 a1 x4 n9 s5_10 s8_11=Option.bind (Z67_q9 a0 a1 x4 (a0.FDefs.l.drop s8_11) s8_11 s5_10) Kb9:=by
 intro n9;induction n9 with
 | zero=>intro s5_10 s8_11 hn; exact absurd hn.1 (by omega)
 | succ n9 ih9 =>
  intro s5_10 s8_11 hn;rw [Z67_l9];by_cases hlt:s8_11<a0.FDefs.l.length
  ·obtain⟨h9,hh9⟩:∃x,a0.FDefs.l[s8_11]?=some x:=⟨_,List.getElem?_eq_getElem hlt⟩;rw [Q.drop_of hh9,Z67_q9];refine Q.condAT (Q.ltT hlt) ?_;refine Q.condO ?_ ?_
   ·refine Q.bindPO hh9 fun x19 hx_x19=>?_;refine Q.guardOO (Z70_eq _ _) fun x22=>?_;refine Q.wrapOO fun Kj16 hKj16=>?_;have hj16:∀(s5_17:(Sl Bs)),Z67_j16 s8_11 (Z67_l9 a0 a1 x4 n9) s5_17=Kj16 s5_17:=by
     intro s5_17;refine Eq.trans ?_ (hKj16 _).symm;unfold Z67_j16;all_goals exact ih9 _ _ ⟨by omega,by omega⟩
    refine Q.condO ?_ ?_
    ·all_goals exact hj16 _
    refine Q.guardPO (Z71_eq _ _) fun x26 hx_x26=>?_;refine Q.guardPO (Z73_eq _ _) fun x28 hx_x28=>?_;refine Q.condO ?_ ?_
    ·refine Q.bindO rfl fun x31=>?_;all_goals exact hj16 _
    all_goals exact hj16 _
   all_goals exact hend n9 s5_10 s8_11
  rw [List.drop_of_length_le (by omega),Z67_q9];refine Q.condAF (Q.ltF hlt) ?_;exact hend n9 s5_10 s8_11
def Z67_q (a0:TDoc) (a1:Bs):Option (Sl Bs):=on (Z45_q a0 a1) fun x4=>Option.bind (Z67_q9 a0 a1 x4 a0.FDefs.l 0 (Sl.nil:Sl Bs)) fun s5_10=>on (s5_10) fun s5_6=>some s5_6
theorem Z67_eq (a0:TDoc) (a1:Bs):Z67 a0 a1=Z67_q a0 a1:=by
 unfold Z67 Z67_q;refine Eq.trans ?_ (Q.some_bind _);refine Q.bindPO (Z45_eq _ _) fun x4 hx_x4=>?_;refine Q.wrapOO fun Kb9 hKb9=>?_;refine Z67_l9_qe  Kb9 ?_ _ _ _ ⟨Nat.succ_pos _,by omega⟩;intro n9 s5_10 s8_11;refine Eq.trans ?_ (hKb9 _).symm;refine Q.wrapPO fun Kj5 hKj5=>?_;have hj5:∀(s5_6:(Sl Bs)),Z67_j5  s5_6=Kj5 s5_6:=by
  intro s5_6;refine Eq.trans ?_ (hKj5 _).symm;unfold Z67_j5;all_goals rfl
 all_goals exact hj5 _
def Z65_q (a0:TDoc) (a1:Bs) (a2:Bs):Option Bool:=(Z67_q a0 a2).bind fun x3=>on (Z71_q x3 a1) fun x4=>some x4
theorem Z65_eq (a0:TDoc) (a1:Bs) (a2:Bs):Z65 a0 a1 a2=Z65_q a0 a1 a2:=by
 unfold Z65 Z65_q;refine Eq.trans ?_ (Q.some_bind _);refine Q.bindO (Z67_eq _ _) fun x3=>?_;refine Q.bindPO (Z71_eq _ _) fun x4 hx_x4=>?_;all_goals rfl
def Z68_qn:Nat->TDoc->TRef->TRef->Option Bool
 | 0,_,_,_=>none
 | n+1,a0,a1,a2=>on (Z28_q a2) fun x4=>bif x4 then(on (Z28_q a1) fun x7=>guardO (x7) (Z29_q a1) TRef.zero fun x8=>guardO (x7) (Z29_q a2) TRef.zero fun x9=>guardO (x7) ((Z68_qn n) a0 x8 x9) false fun x10=>some (x7&&x10)) else(on (Z28_q a1) fun x13=>bif x13 then((Z29_q a1).bind fun x16=>((Z68_qn n) a0 x16 a2).bind fun x17=>some x17) else((Z26_q a1).bind fun x19=>(Z26_q a2).bind fun x21=>bif (x19.2&&x21.2) then(((Z68_qn n) a0 x19.1 x21.1).bind fun x26=>some x26) else(guardO ((((!x19.2)&&(!x21.2))&&!((a1.FName==a2.FName)))) (Z65_q a0 a1.FName a2.FName) false fun x28=>some (((!x19.2)&&(!x21.2))&&(((a1.FName==a2.FName))||x28)))))
theorem Z68_qall:∀n:Nat,Z68_n n=Z68_qn n:=by
 intro n;induction n with
 | zero=>exact(by funext a0 a1 a2; first|rfl|(rw [Z68_n,Z68_qn]))
 | succ n ih =>
  funext a0 a1 a2
  refine Eq.trans ?_ (Q.some_bind _);rw [Z68_n,Z68_qn];try rw [ih]
  refine Q.bindPO (Z28_eq _) fun x4 hx_x4=>?_;refine Q.condO ?_ ?_
  ·refine Q.bindPO (Z28_eq _) fun x7 hx_x7=>?_;refine Q.guardOO (Z29_eq _) fun x8=>?_;refine Q.guardOO (Z29_eq _) fun x9=>?_;refine Q.guardOO rfl fun x10=>?_;all_goals rfl
  refine Q.bindPO (Z28_eq _) fun x13 hx_x13=>?_;refine Q.condO ?_ ?_
  ·refine Q.bindO (Z29_eq _) fun x16=>?_;refine Q.bindO rfl fun x17=>?_;all_goals rfl
  refine Q.bindO (Z26_eq _) fun x19=>?_;refine Q.bindO (Z26_eq _) fun x21=>?_;refine Q.condO ?_ ?_
  ·refine Q.bindO rfl fun x26=>?_;all_goals rfl
  refine Q.guardOO (Z65_eq _ _ _) fun x28=>?_;all_goals rfl
def Z68_q (a0:TDoc) (a1:TRef) (a2:TRef):Option Bool:=Z68_qn F0 a0 a1 a2
theorem Z68_eq (a0:TDoc) (a1:TRef) (a2:TRef):Z68 a0 a1 a2=Z68_q a0 a1 a2:=by
 unfold Z68 Z68_q; rw [(Z68_qall F0)]
def Z33_q11 (a1:(Sl Int)):List Int->Nat->Option (Unit ⊕ Bool)
 | [],s5_12=>some (Sum.inl ())
 | h11::r11,s5_12=>on (h11) fun x19=>(a1.l[s5_12]?).bind fun x20=>bif (!decide (x19=x20)) then(some (Sum.inr false)) else(Z33_q11 a1 (r11) (s5_12+1) )
theorem Z33_l11_qe {a0:(Sl Int)}{a1:(Sl Int)}  (Kb11:(Unit ⊕ Bool)->Option Bool) (hend:∀(n11:Nat) (s5_12:Nat),Z33_j8   =Kb11 (Sum.inl ())) (hret:∀e:Bool,some e=Kb11 (Sum.inr e)):∀(n11:Nat) (s5_12:Nat),(0<n11/\a0.l.length<s5_12+n11)->Z33_l11 a0 a1 n11 s5_12=Option.bind (Z33_q11 a1 (a0.l.drop s5_12) s5_12 ) Kb11:=by
 intro n11;induction n11 with
 | zero=>intro s5_12 hn; exact absurd hn.1 (by omega)
 | succ n11 ih11 =>
  intro s5_12 hn;rw [Z33_l11];by_cases hlt:s5_12<a0.l.length
  ·obtain⟨h11,hh11⟩:∃x,a0.l[s5_12]?=some x:=⟨_,List.getElem?_eq_getElem hlt⟩;rw [Q.drop_of hh11,Z33_q11];refine Q.condT (Q.ltT hlt) ?_;refine Q.bindPO hh11 fun x19 hx_x19=>?_;refine Q.bindO rfl fun x20=>?_;refine Q.condO ?_ ?_
   ·all_goals exact hret _
   all_goals exact ih11 _ ⟨by omega,by omega⟩
  rw [List.drop_of_length_le (by omega),Z33_q11];refine Q.condF (Q.ltF hlt) ?_;exact hend n11 s5_12
def Z33_q (a0:(Sl Int)) (a1:(Sl Int)):Option Bool:=bif (!decide (((a0.l.length:Nat):Int)=((a1.l.length:Nat):Int))) then(some false) else(Option.bind (Z33_q11 a1 a0.l 0 ) fun o11=>match o11 with|Sum.inl _=>(on (()) fun _=>some true)|Sum.inr e11=>(some e11))
theorem Z33_eq (a0:(Sl Int)) (a1:(Sl Int)):Z33 a0 a1=Z33_q a0 a1:=by
 unfold Z33 Z33_q;refine Eq.trans ?_ (Q.some_bind _);refine Q.condO ?_ ?_
 ·all_goals rfl
 refine Q.wrapOO fun Kb11 hKb11=>?_;refine Z33_l11_qe  Kb11 ?_ ?_ _ _ ⟨Nat.succ_pos _,by omega⟩
 ·intro n11 s5_12;refine Eq.trans ?_ (hKb11 _).symm;try dsimp only
  refine Q.wrapPO fun Kj8 hKj8=>?_;have hj8:Z33_j8  =Kj8 ():=by
   refine Eq.trans ?_ (hKj8 _).symm;unfold Z33_j8;all_goals rfl
  all_goals exact hj8
 intro e11;refine Eq.trans ?_ (hKb11 _).symm;try dsimp only
 all_goals rfl
def Z31_q (a0:TRef) (a1:TRef):Option Bool:=guardO (((a0.FName==a1.FName))) (Z33_q a0.FWraps a1.FWraps) false fun x3=>some (((a0.FName==a1.FName))&&x3)
theorem Z31_eq (a0:TRef) (a1:TRef):Z31 a0 a1=Z31_q a0 a1:=by
 unfold Z31 Z31_q;refine Eq.trans ?_ (Q.some_bind _);refine Q.guardOO (Z33_eq _ _) fun x3=>?_;all_goals rfl
end Go.Proofs
