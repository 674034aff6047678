import Derived.Test.YtimiconoebjfbaaGreatDoorV12
set_option maxRecDepth 100000
set_option maxHeartbeats 2000000
set_option linter.unusedVariables false
set_option linter.unusedSimpArgs false
namespace Go.Proofs
open Go Go.Ab
def Z69_q43 (x4:Bs) (x6:(TField×Bool)):List TInput->(Sl TFault)->Option ((Sl TFault))
 | [],s10_44=>some s10_44
 | h43::r43,s10_44=>on (h43) fun x53=>on (Z46_q x6.1.FArgs x53.FName) fun x54=>on (bif !(!x54.2) then h43 else TInput.zero) fun x56=>guardO (!(!x54.2)) (Z31_q x54.1.FType x56.FType) false fun x57=>Option.bind (bif ((!x54.2)||(!x57)) then((catC x4 ([40]:Bs)).bind fun x59=>on (h43) fun x60=>(catC x59 x60.FName).bind fun x61=>(catC x61 ([41]:Bs)).bind fun x62=>(appC 24 s10_44 (⟨false,[(TFault.mk (22:Int) x62)]⟩:Sl TFault)).bind fun x63=>some x63) else(some s10_44)) fun s10_51=>Z69_q43 x4 x6 (r43) s10_51
theorem Z69_l43_qe {a2:TField}{x4:Bs}{x6:(TField×Bool)}  (Kb43:((Sl TFault))->Option (Sl TFault)) (hend:∀(n43:Nat) (s10_44:(Sl TFault)) (s11_45:Nat),Z69_j14 a2 x4 x6  s10_44=Kb43 s10_44):∀(n43:Nat) (s10_44:(Sl TFault)) (s11_45:Nat),(0<n43/\a2.FArgs.l.length<s11_45+n43)->Z69_l43 a2 x4 x6 n43 s10_44 s11_45=Option.bind (Z69_q43 x4 x6 (a2.FArgs.l.drop s11_45) s10_44) Kb43:=by
 intro n43;induction n43 with
 | zero=>intro s10_44 s11_45 hn; exact absurd hn.1 (by omega)
 | succ n43 ih43 =>
  intro s10_44 s11_45 hn;rw [Z69_l43];by_cases hlt:s11_45<a2.FArgs.l.length
  ·obtain⟨h43,hh43⟩:∃x,a2.FArgs.l[s11_45]?=some x:=⟨_,List.getElem?_eq_getElem hlt⟩;rw [Q.drop_of hh43,Z69_q43];refine Q.condT (Q.ltT hlt) ?_;refine Q.bindPO hh43 fun x53 hx_x53=>?_;refine Q.bindPO (Z46_eq _ _) fun x54 hx_x54=>?_;refine Q.guardPO hh43 fun x56 hx_x56=>?_;refine Q.guardOO (Z31_eq _ _) fun x57=>?_;refine Q.wrapOO fun Kj50 hKj50=>?_;have hj50:∀(s10_51:(Sl TFault)),Z69_j50 s11_45 (Z69_l43 a2 x4 x6 n43) s10_51=Kj50 s10_51:=by
    intro s10_51;refine Eq.trans ?_ (hKj50 _).symm;unfold Z69_j50;all_goals exact ih43 _ _ ⟨by omega,by omega⟩
   refine Q.condO ?_ ?_
   ·refine Q.bindO rfl fun x59=>?_;refine Q.bindPO hh43 fun x60 hx_x60=>?_;refine Q.bindO rfl fun x61=>?_;refine Q.bindO rfl fun x62=>?_;refine Q.bindO rfl fun x63=>?_;all_goals exact hj50 _
   all_goals exact hj50 _
  rw [List.drop_of_length_le (by omega),Z69_q43];refine Q.condF (Q.ltF hlt) ?_;exact hend n43 s10_44 s11_45
def Z69_q20 (a2:TField) (x4:Bs):List TInput->(Sl TFault)->Option ((Sl TFault))
 | [],s10_21=>some s10_21
 | h20::r20,s10_21=>on (h20) fun x30=>on (Z46_q a2.FArgs x30.FName) fun x31=>on (bif (!x31.2) then h20 else TInput.zero) fun x33=>on (bif (!x31.2) then Z28_q x33.FType else false) fun x34=>on (bif ((!x31.2)&&x34) then h20 else TInput.zero) fun x35=>Option.bind (bif (((!x31.2)&&x34)&&(!x35.FHas)) then((catC x4 ([40]:Bs)).bind fun x37=>on (h20) fun x38=>(catC x37 x38.FName).bind fun x39=>(catC x39 ([41]:Bs)).bind fun x40=>(appC 24 s10_21 (⟨false,[(TFault.mk (22:Int) x40)]⟩:Sl TFault)).bind fun x41=>some x41) else(some s10_21)) fun s10_28=>Z69_q20 a2 x4 (r20) s10_28
theorem Z69_l20_qe {a2:TField}{x4:Bs}{x6:(TField×Bool)}  (Kb20:((Sl TFault))->Option (Sl TFault)) (hend:∀(n20:Nat) (s10_21:(Sl TFault)) (s14_22:Nat),Z69_j16   s10_21=Kb20 s10_21):∀(n20:Nat) (s10_21:(Sl TFault)) (s14_22:Nat),(0<n20/\x6.1.FArgs.l.length<s14_22+n20)->Z69_l20 a2 x4 x6 n20 s10_21 s14_22=Option.bind (Z69_q20 a2 x4 (x6.1.FArgs.l.drop s14_22) s10_21) Kb20:=by
 intro n20;induction n20 with
 | zero=>intro s10_21 s14_22 hn; exact absurd hn.1 (by omega)
 | succ n20 ih20 =>
  intro s10_21 s14_22 hn;rw [Z69_l20];by_cases hlt:s14_22<x6.1.FArgs.l.length
  ·obtain⟨h20,hh20⟩:∃x,x6.1.FArgs.l[s14_22]?=some x:=⟨_,List.getElem?_eq_getElem hlt⟩;rw [Q.drop_of hh20,Z69_q20];refine Q.condT (Q.ltT hlt) ?_;refine Q.bindPO hh20 fun x30 hx_x30=>?_;refine Q.bindPO (Z46_eq _ _) fun x31 hx_x31=>?_;refine Q.guardPO hh20 fun x33 hx_x33=>?_;refine Q.guardPO (Z28_eq _) fun x34 hx_x34=>?_;refine Q.guardPO hh20 fun x35 hx_x35=>?_;refine Q.wrapOO fun Kj27 hKj27=>?_;have hj27:∀(s10_28:(Sl TFault)),Z69_j27 s14_22 (Z69_l20 a2 x4 x6 n20) s10_28=Kj27 s10_28:=by
    intro s10_28;refine Eq.trans ?_ (hKj27 _).symm;unfold Z69_j27;all_goals exact ih20 _ _ ⟨by omega,by omega⟩
   refine Q.condO ?_ ?_
   ·refine Q.bindO rfl fun x37=>?_;refine Q.bindPO hh20 fun x38 hx_x38=>?_;refine Q.bindO rfl fun x39=>?_;refine Q.bindO rfl fun x40=>?_;refine Q.bindO rfl fun x41=>?_;all_goals exact hj27 _
   all_goals exact hj27 _
  rw [List.drop_of_length_le (by omega),Z69_q20];refine Q.condF (Q.ltF hlt) ?_;exact hend n20 s10_21 s14_22
def Z69_q (a0:TDoc) (a1:TDef) (a2:TField):Option (Sl TFault):=(catC a1.FName ([46]:Bs)).bind fun x3=>(catC x3 a2.FName).bind fun x4=>on (Z44_q a1 a2.FName) fun x6=>bif (!x6.2) then(some (⟨false,[(TFault.mk (20:Int) x4)]⟩:Sl TFault)) else((Z68_q a0 x6.1.FType a2.FType).bind fun x65=>Option.bind (bif (!x65) then((appC 24 (Sl.nil:Sl TFault) (⟨false,[(TFault.mk (10:Int) x4)]⟩:Sl TFault)).bind fun x67=>some x67) else(some (Sl.nil:Sl TFault))) fun s10_13=>Option.bind (Z69_q43 x4 x6 a2.FArgs.l s10_13) fun s10_44=>on (s10_44) fun s10_15=>Option.bind (Z69_q20 a2 x4 x6.1.FArgs.l s10_15) fun s10_21=>on (s10_21) fun s10_17=>some s10_17)
theorem Z69_eq (a0:TDoc) (a1:TDef) (a2:TField):Z69 a0 a1 a2=Z69_q a0 a1 a2:=by
 unfold Z69 Z69_q;refine Eq.trans ?_ (Q.some_bind _);refine Q.bindO rfl fun x3=>?_;refine Q.bindO rfl fun x4=>?_;refine Q.bindPO (Z44_eq _ _) fun x6 hx_x6=>?_;refine Q.condO ?_ ?_
 ·all_goals rfl
 refine Q.bindO (Z68_eq _ _ _) fun x65=>?_;refine Q.wrapOO fun Kj12 hKj12=>?_;have hj12:∀(s10_13:(Sl TFault)),Z69_j12 a2 x4 x6 s10_13=Kj12 s10_13:=by
  intro s10_13;refine Eq.trans ?_ (hKj12 _).symm;unfold Z69_j12;refine Q.wrapOO fun Kb43 hKb43=>?_;refine Z69_l43_qe  Kb43 ?_ _ _ _ ⟨Nat.succ_pos _,by omega⟩;intro n43 s10_44 s11_45;refine Eq.trans ?_ (hKb43 _).symm;refine Q.wrapPO fun Kj14 hKj14=>?_;have hj14:∀(s10_15:(Sl TFault)),Z69_j14 a2 x4 x6 s10_15=Kj14 s10_15:=by
   intro s10_15;refine Eq.trans ?_ (hKj14 _).symm;unfold Z69_j14;refine Q.wrapOO fun Kb20 hKb20=>?_;refine Z69_l20_qe  Kb20 ?_ _ _ _ ⟨Nat.succ_pos _,by omega⟩;intro n20 s10_21 s14_22;refine Eq.trans ?_ (hKb20 _).symm;refine Q.wrapPO fun Kj16 hKj16=>?_;have hj16:∀(s10_17:(Sl TFault)),Z69_j16  s10_17=Kj16 s10_17:=by
    intro s10_17;refine Eq.trans ?_ (hKj16 _).symm;unfold Z69_j16;all_goals rfl
   all_goals exact hj16 _
  all_goals exact hj14 _
 refine Q.condO ?_ ?_
 ·refine Q.bindO rfl fun x67=>?_;all_goals exact hj12 _
 all_goals exact hj12 _
def Z74_q30 (a0:TDoc) (a1:TDef):List TField->(Sl TFault)->Option ((Sl TFault))
 | [],s5_31=>some s5_31
 | h30::r30,s5_31=>on (h30) fun x38=>(Z69_q a0 a1 x38).bind fun x39=>(appC 24 s5_31 x39).bind fun x40=>Z74_q30 a0 a1 (r30) x40
theorem Z74_l30_qe {a0:TDoc}{a1:TDef}{s6_9:Nat}{x28:(TDef×Bool)}{k_next_7:(Sl TFault)->Nat->Option (Sl TFault)}  (Kb30:((Sl TFault))->Option (Sl TFault)) (hend:∀(n30:Nat) (s5_31:(Sl TFault)) (s10_32:Nat),Z74_j14 s6_9 k_next_7 s5_31=Kb30 s5_31):∀(n30:Nat) (s5_31:(Sl TFault)) (s10_32:Nat),(0<n30/\x28.1.FFields.l.length<s10_32+n30)->Z74_l30 a0 a1 s6_9 x28 k_next_7 n30 s5_31 s10_32=Option.bind (Z74_q30 a0 a1 (x28.1.FFields.l.drop s10_32) s5_31) Kb30:=by
 intro n30;induction n30 with
 | zero=>intro s5_31 s10_32 hn; exact absurd hn.1 (by omega)
 | succ n30 ih30 =>
  intro s5_31 s10_32 hn;rw [Z74_l30];by_cases hlt:s10_32<x28.1.FFields.l.length
  ·obtain⟨h30,hh30⟩:∃x,x28.1.FFields.l[s10_32]?=some x:=⟨_,List.getElem?_eq_getElem hlt⟩;rw [Q.drop_of hh30,Z74_q30];refine Q.condT (Q.ltT hlt) ?_;refine Q.bindPO hh30 fun x38 hx_x38=>?_;refine Q.bindO (Z69_eq _ _ _) fun x39=>?_;refine Q.bindO rfl fun x40=>?_;all_goals exact ih30 _ _ ⟨by omega,by omega⟩
  rw [List.drop_of_length_le (by omega),Z74_q30];refine Q.condF (Q.ltF hlt) ?_;exact hend n30 s5_31 s10_32
def Z74_q7 (a0:TDoc) (a1:TDef):List Bs->Nat->(Sl TFault)->Option ((Sl TFault))
 | [],s6_9,s5_8=>some s5_8
 | h7::r7,s6_9,s5_8=>on (h7) fun x17=>on (Z72_q a0 x17 (2:Int)) fun x18=>on (bif (decide (x18=(0:Int))) then(⟨a1.FImplements.nl,a1.FImplements.l.take s6_9⟩:Sl Bs) else(Sl.nil:Sl Bs)) fun x42=>on (bif (decide (x18=(0:Int))) then h7 else([]:Bs)) fun x43=>on (bif (decide (x18=(0:Int))) then Z71_q x42 x43 else false) fun x44=>on (bif ((decide (x18=(0:Int)))&&x44) then((7:Int)) else(x18)) fun s7_20=>Option.bind (bif (!decide (s7_20=(0:Int))) then((appC 24 s5_8 (⟨false,[(TFault.mk s7_20 a1.FName)]⟩:Sl TFault)).bind fun x25=>some x25) else(on (h7) fun x27=>on (Z45_q a0 x27) fun x28=>Option.bind (Z74_q30 a0 a1 x28.1.FFields.l s5_8) fun s5_31=>some s5_31)) fun s5_15=>Z74_q7 a0 a1 (r7) (s6_9+1) s5_15
theorem Z74_l7_qe {a0:TDoc}{a1:TDef}  (Kb7:((Sl TFault))->Option (Sl TFault)) (hend:∀(n7:Nat) (s5_8:(Sl TFault)) (s6_9:Nat),Z74_j3   s5_8=Kb7 s5_8):∀(n7:Nat) (s5_8:(Sl TFault)) (s6_9:Nat),(0<n7/\a1.FImplements.l.length<s6_9+n7)->Z74_l7 a0 a1 n7 s5_8 s6_9=Option.bind (Z74_q7 a0 a1 (a1.FImplements.l.drop s6_9) s6_9 s5_8) Kb7:=by
 intro n7;induction n7 with
 | zero=>intro s5_8 s6_9 hn; exact absurd hn.1 (by omega)
 | succ n7 ih7 =>
  intro s5_8 s6_9 hn;rw [Z74_l7];by_cases hlt:s6_9<a1.FImplements.l.length
  ·obtain⟨h7,hh7⟩:∃x,a1.FImplements.l[s6_9]?=some x:=⟨_,List.getElem?_eq_getElem hlt⟩;rw [Q.drop_of hh7,Z74_q7];refine Q.condT (Q.ltT hlt) ?_;refine Q.bindPO hh7 fun x17 hx_x17=>?_;refine Q.bindPO (Z72_eq _ _ _) fun x18 hx_x18=>?_;refine Q.guardPO (Q.partC_take (by omega)) fun x42 hx_x42=>?_;refine Q.guardPO hh7 fun x43 hx_x43=>?_;refine Q.guardPO (Z71_eq _ _) fun x44 hx_x44=>?_;refine Q.wrapPO fun Kj19 hKj19=>?_
   have hj19:∀(s7_20:Int),Z74_j19 a0 a1 s5_8 s6_9 (Z74_l7 a0 a1 n7) s7_20=Kj19 s7_20:=by
    intro s7_20;refine Eq.trans ?_ (hKj19 _).symm;unfold Z74_j19;refine Q.wrapOO fun Kj14 hKj14=>?_;have hj14:∀(s5_15:(Sl TFault)),Z74_j14 s6_9 (Z74_l7 a0 a1 n7) s5_15=Kj14 s5_15:=by
     intro s5_15;refine Eq.trans ?_ (hKj14 _).symm;unfold Z74_j14;all_goals exact ih7 _ _ ⟨by omega,by omega⟩
    refine Q.condO ?_ ?_
    ·refine Q.bindO rfl fun x25=>?_;all_goals exact hj14 _
    refine Q.bindPO hh7 fun x27 hx_x27=>?_;refine Q.bindPO (Z45_eq _ _) fun x28 hx_x28=>?_;refine Q.wrapOO fun Kb30 hKb30=>?_;refine Z74_l30_qe  Kb30 ?_ _ _ _ ⟨Nat.succ_pos _,by omega⟩;intro n30 s5_31 s10_32;refine Eq.trans ?_ (hKb30 _).symm;all_goals exact hj14 _
   refine Q.condP ?_ ?_
   ·all_goals exact hj19 _
   all_goals exact hj19 _
  rw [List.drop_of_length_le (by omega),Z74_q7];refine Q.condF (Q.ltF hlt) ?_;exact hend n7 s5_8 s6_9
def Z74_q (a0:TDoc) (a1:TDef):Option (Sl TFault):=Option.bind (Z74_q7 a0 a1 a1.FImplements.l 0 (Sl.nil:Sl TFault)) fun s5_8=>on (s5_8) fun s5_4=>some s5_4
theorem Z74_eq (a0:TDoc) (a1:TDef):Z74 a0 a1=Z74_q a0 a1:=by
 unfold Z74 Z74_q;refine Eq.trans ?_ (Q.some_bind _);refine Q.wrapOO fun Kb7 hKb7=>?_;refine Z74_l7_qe  Kb7 ?_ _ _ _ ⟨Nat.succ_pos _,by omega⟩;intro n7 s5_8 s6_9;refine Eq.trans ?_ (hKb7 _).symm;refine Q.wrapPO fun Kj3 hKj3=>?_;have hj3:∀(s5_4:(Sl TFault)),Z74_j3  s5_4=Kj3 s5_4:=by
  intro s5_4;refine Eq.trans ?_ (hKj3 _).symm;unfold Z74_j3;all_goals rfl
 all_goals exact hj3 _
def Z75_q7 (a0:TDoc) (a1:TDef):List TMember->Nat->(Sl TFault)->Option ((Sl TFault))
 | [],s6_9,s5_8=>some s5_8
 | h7::r7,s6_9,s5_8=>on (h7) fun x17=>on (Z72_q a0 x17.FName (1:Int)) fun x19=>on (bif (decide (x19=(0:Int))) then(⟨a1.FMembers.nl,a1.FMembers.l.take s6_9⟩:Sl TMember) else(Sl.nil:Sl TMember)) fun x28=>on (bif (decide (x19=(0:Int))) then Z73_q (TDef.mk (0:Int) ([]:Bs) (Sl.nil:Sl Bs) (Sl.nil:Sl TDir) (Sl.nil:Sl TField) x28 (Sl.nil:Sl TInput)) x17.FName else false) fun x29=>on (bif ((decide (x19=(0:Int)))&&x29) then((7:Int)) else(x19)) fun s8_21=>Option.bind (bif (!decide (s8_21=(0:Int))) then((catC a1.FName ([46]:Bs)).bind fun x24=>(catC x24 x17.FName).bind fun x25=>(appC 24 s5_8 (⟨false,[(TFault.mk s8_21 x25)]⟩:Sl TFault)).bind fun x26=>some x26) else(some s5_8)) fun s5_15=>Z75_q7 a0 a1 (r7) (s6_9+1) s5_15
theorem Z75_l7_qe {a0:TDoc}{a1:TDef}  (Kb7:((Sl TFault))->Option (Sl TFault)) (hend:∀(n7:Nat) (s5_8:(Sl TFault)) (s6_9:Nat),Z75_j3   s5_8=Kb7 s5_8):∀(n7:Nat) (s5_8:(Sl TFault)) (s6_9:Nat),(0<n7/\a1.FMembers.l.length<s6_9+n7)->Z75_l7 a0 a1 n7 s5_8 s6_9=Option.bind (Z75_q7 a0 a1 (a1.FMembers.l.drop s6_9) s6_9 s5_8) Kb7:=by
 intro n7;induction n7 with
 | zero=>intro s5_8 s6_9 hn; exact absurd hn.1 (by omega)
 | succ n7 ih7 =>
  intro s5_8 s6_9 hn;rw [Z75_l7];by_cases hlt:s6_9<a1.FMembers.l.length
  ·obtain⟨h7,hh7⟩:∃x,a1.FMembers.l[s6_9]?=some x:=⟨_,List.getElem?_eq_getElem hlt⟩;rw [Q.drop_of hh7,Z75_q7];refine Q.condT (Q.ltT hlt) ?_;refine Q.bindPO hh7 fun x17 hx_x17=>?_;refine Q.bindPO (Z72_eq _ _ _) fun x19 hx_x19=>?_;refine Q.guardPO (Q.partC_take (by omega)) fun x28 hx_x28=>?_;refine Q.guardPO (Z73_eq _ _) fun x29 hx_x29=>?_;refine Q.wrapPO fun Kj20 hKj20=>?_;have hj20:∀(s8_21:Int),Z75_j20 a1 s5_8 s6_9 x17 (Z75_l7 a0 a1 n7) s8_21=Kj20 s8_21:=by
    intro s8_21;refine Eq.trans ?_ (hKj20 _).symm;unfold Z75_j20;refine Q.wrapOO fun Kj14 hKj14=>?_;have hj14:∀(s5_15:(Sl TFault)),Z75_j14 s6_9 (Z75_l7 a0 a1 n7) s5_15=Kj14 s5_15:=by
     intro s5_15;refine Eq.trans ?_ (hKj14 _).symm;unfold Z75_j14;all_goals exact ih7 _ _ ⟨by omega,by omega⟩
    refine Q.condO ?_ ?_
    ·refine Q.bindO rfl fun x24=>?_;refine Q.bindO rfl fun x25=>?_;refine Q.bindO rfl fun x26=>?_;all_goals exact hj14 _
    all_goals exact hj14 _
   refine Q.condP ?_ ?_
   ·all_goals exact hj20 _
   all_goals exact hj20 _
  rw [List.drop_of_length_le (by omega),Z75_q7];refine Q.condF (Q.ltF hlt) ?_;exact hend n7 s5_8 s6_9
def Z75_q (a0:TDoc) (a1:TDef):Option (Sl TFault):=Option.bind (Z75_q7 a0 a1 a1.FMembers.l 0 (Sl.nil:Sl TFault)) fun s5_8=>on (s5_8) fun s5_4=>some s5_4
theorem Z75_eq (a0:TDoc) (a1:TDef):Z75 a0 a1=Z75_q a0 a1:=by
 unfold Z75 Z75_q;refine Eq.trans ?_ (Q.some_bind _);refine Q.wrapOO fun Kb7 hKb7=>?_;refine Z75_l7_qe  Kb7 ?_ _ _ _ ⟨Nat.succ_pos _,by omega⟩;intro n7 s5_8 s6_9;refine Eq.trans ?_ (hKb7 _).symm;refine Q.wrapPO fun Kj3 hKj3=>?_;have hj3:∀(s5_4:(Sl TFault)),Z75_j3  s5_4=Kj3 s5_4:=by
  intro s5_4;refine Eq.trans ?_ (hKj3 _).symm;unfold Z75_j3;all_goals rfl
 all_goals exact hj3 _
def Z64_q7 (a0:TDoc):List TDef->(Sl TFault)->Option ((Sl TFault))
 | [],s3_8=>some s3_8
 | h7::r7,s3_8=>on (h7) fun x17=>Option.bind (bif (decide (x17.FKind=(1:Int))) then(on (h7) fun x20=>(Z74_q a0 x20).bind fun x21=>(appC 24 s3_8 x21).bind fun x22=>some x22) else(bif (decide (x17.FKind=(3:Int))) then(on (h7) fun x25=>(Z75_q a0 x25).bind fun x26=>(appC 24 s3_8 x26).bind fun x27=>some x27) else(some s3_8))) fun s3_15=>Z64_q7 a0 (r7) s3_15
theorem Z64_l7_qe {a0:TDoc}  (Kb7:((Sl TFault))->Option (Sl TFault)) (hend:∀(n7:Nat) (s3_8:(Sl TFault)) (s4_9:Nat),Z64_j3   s3_8=Kb7 s3_8):∀(n7:Nat) (s3_8:(Sl TFault)) (s4_9:Nat),(0<n7/\a0.FDefs.l.length<s4_9+n7)->Z64_l7 a0 n7 s3_8 s4_9=Option.bind (Z64_q7 a0 (a0.FDefs.l.drop s4_9) s3_8) Kb7:=by
 intro n7;induction n7 with
 | zero=>intro s3_8 s4_9 hn; exact absurd hn.1 (by omega)
 | succ n7 ih7 =>
  intro s3_8 s4_9 hn;rw [Z64_l7];by_cases hlt:s4_9<a0.FDefs.l.length
  ·obtain⟨h7,hh7⟩:∃x,a0.FDefs.l[s4_9]?=some x:=⟨_,List.getElem?_eq_getElem hlt⟩;rw [Q.drop_of hh7,Z64_q7];refine Q.condT (Q.ltT hlt) ?_;refine Q.bindPO hh7 fun x17 hx_x17=>?_;refine Q.wrapOO fun Kj14 hKj14=>?_;have hj14:∀(s3_15:(Sl TFault)),Z64_j14 s4_9 (Z64_l7 a0 n7) s3_15=Kj14 s3_15:=by
    intro s3_15;refine Eq.trans ?_ (hKj14 _).symm;unfold Z64_j14;all_goals exact ih7 _ _ ⟨by omega,by omega⟩
   refine Q.condO ?_ ?_
   ·refine Q.bindPO hh7 fun x20 hx_x20=>?_;refine Q.bindO (Z74_eq _ _) fun x21=>?_;refine Q.bindO rfl fun x22=>?_;all_goals exact hj14 _
   refine Q.condO ?_ ?_
   ·refine Q.bindPO hh7 fun x25 hx_x25=>?_;refine Q.bindO (Z75_eq _ _) fun x26=>?_;refine Q.bindO rfl fun x27=>?_;all_goals exact hj14 _
   all_goals exact hj14 _
  rw [List.drop_of_length_le (by omega),Z64_q7];refine Q.condF (Q.ltF hlt) ?_;exact hend n7 s3_8 s4_9
def Z64_q (a0:TDoc):Option (Sl TFault):=Option.bind (Z64_q7 a0 a0.FDefs.l (Sl.nil:Sl TFault)) fun s3_8=>on (s3_8) fun s3_4=>some s3_4
theorem Z64_eq (a0:TDoc):Z64 a0=Z64_q a0:=by
 unfold Z64 Z64_q;refine Eq.trans ?_ (Q.some_bind _);refine Q.wrapOO fun Kb7 hKb7=>?_;refine Z64_l7_qe  Kb7 ?_ _ _ _ ⟨Nat.succ_pos _,by omega⟩;intro n7 s3_8 s4_9;refine Eq.trans ?_ (hKb7 _).symm;refine Q.wrapPO fun Kj3 hKj3=>?_;have hj3:∀(s3_4:(Sl TFault)),Z64_j3  s3_4=Kj3 s3_4:=by
  intro s3_4;refine Eq.trans ?_ (hKj3 _).symm;unfold Z64_j3;all_goals rfl
 all_goals exact hj3 _
def Z42_q (a0:TDoc) (a1:Bs):Bool:=on (Z45_q a0 a1) fun x3=>on (Z51_q a1) fun x5=>(((!x5)&&x3.2)&&(((decide (x3.1.FKind=(1:Int)))||(decide (x3.1.FKind=(2:Int))))||(decide (x3.1.FKind=(3:Int)))))
theorem Z42_eq (a0:TDoc) (a1:Bs):Z42 a0 a1=some (Z42_q a0 a1):=by
 unfold Z42 Z42_q;refine Q.bindP (Z45_eq _ _) fun x3 hx_x3=>?_;refine Q.bindP (Z51_eq _) fun x5 hx_x5=>?_;all_goals rfl
def Z85_q (a0:TDoc) (a1:Bs):Bs:=on (Z42_q a0 a1) fun x4=>bif x4 then(a1) else(([]:Bs))
theorem Z85_eq (a0:TDoc) (a1:Bs):Z85 a0 a1=some (Z85_q a0 a1):=by
 unfold Z85 Z85_q;refine Q.bindP (Z42_eq _ _) fun x4 hx_x4=>?_;refine Q.condP ?_ ?_
 ·all_goals rfl
 all_goals rfl
def Z77_q6 (a1:Bs):List TFrag->Unit ⊕ ((TFrag×Bool))
 | []=>Sum.inl ()
 | h6::r6=>on (h6) fun x15=>bif ((x15.FName==a1)) then(on (h6) fun x18=>Sum.inr (x18,true)) else(Z77_q6 a1 (r6) )
theorem Z77_l6_qe {a0:TQuery}{a1:Bs}  (Kb6:(Unit ⊕ ((TFrag×Bool)))->Option (TFrag×Bool)) (hend:∀(n6:Nat) (s6_7:Nat) (y8_l0:TFrag),Z77_j2   y8_l0=Kb6 (Sum.inl ())) (hret:∀e:(TFrag×Bool),some e=Kb6 (Sum.inr e)):∀(n6:Nat) (s6_7:Nat) (y8_l0:TFrag),(0<n6/\a0.FFrags.l.length<s6_7+n6)->Z77_l6 a0 a1 n6 s6_7 y8_l0=Kb6 (Z77_q6 a1 (a0.FFrags.l.drop s6_7) ):=by
 intro n6;induction n6 with
 | zero=>intro s6_7 y8_l0 hn; exact absurd hn.1 (by omega)
 | succ n6 ih6 =>
  intro s6_7 y8_l0 hn;rw [Z77_l6];by_cases hlt:s6_7<a0.FFrags.l.length
  ·obtain⟨h6,hh6⟩:∃x,a0.FFrags.l[s6_7]?=some x:=⟨_,List.getElem?_eq_getElem hlt⟩;rw [Q.drop_of hh6,Z77_q6];refine Q.condT (Q.ltT hlt) ?_;refine Q.bindP hh6 fun x15 hx_x15=>?_;refine Q.condP ?_ ?_
   ·refine Q.bindP hh6 fun x18 hx_x18=>?_;all_goals exact hret _
   all_goals exact ih6 _ _ ⟨by omega,by omega⟩
  rw [List.drop_of_length_le (by omega),Z77_q6];refine Q.condF (Q.ltF hlt) ?_;exact hend n6 s6_7 y8_l0
def Z77_q (a0:TQuery) (a1:Bs):(TFrag×Bool):=on (Z77_q6 a1 a0.FFrags.l ) fun o6=>match o6 with|Sum.inl _=>(on (()) fun _=>((TFrag.mk ([]:Bs) ([]:Bs) (Sl.nil:Sl TSel)),false))|Sum.inr e6=>(e6)
theorem Z77_eq (a0:TQuery) (a1:Bs):Z77 a0 a1=some (Z77_q a0 a1):=by
 unfold Z77 Z77_q;refine Q.wrapPP fun Kb6 hKb6=>?_;refine Z77_l6_qe  Kb6 ?_ ?_ _ _ _ ⟨Nat.succ_pos _,by omega⟩
 ·intro n6 s6_7 y8_l0;refine Eq.trans ?_ (hKb6 _).symm;try dsimp only
  refine Q.wrapPP fun Kj2 hKj2=>?_;have hj2:∀(y3_l0:TFrag),Z77_j2  y3_l0=Kj2 ():=by
   intro y3_l0;refine Eq.trans ?_ (hKj2 _).symm;unfold Z77_j2;all_goals rfl
  all_goals exact hj2 _
 intro e6;refine Eq.trans ?_ (hKb6 _).symm;try dsimp only
 all_goals rfl
def Z66_q7 (a0:TDoc) (a2:Bs):List Bs->Option (Unit ⊕ Bool)
 | []=>some (Sum.inl ())
 | h7::r7=>on (h7) fun x15=>(Z65_q a0 x15 a2).bind fun x16=>bif x16 then(some (Sum.inr true)) else(Z66_q7 a0 a2 (r7) )
theorem Z66_l7_qe {a0:TDoc}{a2:Bs}{x3:(Sl Bs)}  (Kb7:(Unit ⊕ Bool)->Option Bool) (hend:∀(n7:Nat) (s8_8:Nat),Z66_j4   =Kb7 (Sum.inl ())) (hret:∀e:Bool,some e=Kb7 (Sum.inr e)):∀(n7:Nat) (s8_8:Nat),(0<n7/\x3.l.length<s8_8+n7)->Z66_l7 a0 a2 x3 n7 s8_8=Option.bind (Z66_q7 a0 a2 (x3.l.drop s8_8) ) Kb7:=by
 intro n7;induction n7 with
 | zero=>intro s8_8 hn; exact absurd hn.1 (by omega)
 | succ n7 ih7 =>
  intro s8_8 hn;rw [Z66_l7];by_cases hlt:s8_8<x3.l.length
  ·obtain⟨h7,hh7⟩:∃x,x3.l[s8_8]?=some x:=⟨_,List.getElem?_eq_getElem hlt⟩;rw [Q.drop_of hh7,Z66_q7];refine Q.condT (Q.ltT hlt) ?_;refine Q.bindPO hh7 fun x15 hx_x15=>?_;refine Q.bindO (Z65_eq _ _ _) fun x16=>?_;refine Q.condO ?_ ?_
   ·all_goals exact hret _
   all_goals exact ih7 _ ⟨by omega,by omega⟩
  rw [List.drop_of_length_le (by omega),Z66_q7];refine Q.condF (Q.ltF hlt) ?_;exact hend n7 s8_8
def Z66_q (a0:TDoc) (a1:Bs) (a2:Bs):Option Bool:=(Z67_q a0 a1).bind fun x3=>Option.bind (Z66_q7 a0 a2 x3.l ) fun o7=>match o7 with|Sum.inl _=>(on (()) fun _=>some false)|Sum.inr e7=>(some e7)
theorem Z66_eq (a0:TDoc) (a1:Bs) (a2:Bs):Z66 a0 a1 a2=Z66_q a0 a1 a2:=by
 unfold Z66 Z66_q;refine Eq.trans ?_ (Q.some_bind _);refine Q.bindO (Z67_eq _ _) fun x3=>?_;refine Q.wrapOO fun Kb7 hKb7=>?_;refine Z66_l7_qe  Kb7 ?_ ?_ _ _ ⟨Nat.succ_pos _,by omega⟩
 ·intro n7 s8_8;refine Eq.trans ?_ (hKb7 _).symm;try dsimp only
  refine Q.wrapPO fun Kj4 hKj4=>?_;have hj4:Z66_j4  =Kj4 ():=by
   refine Eq.trans ?_ (hKj4 _).symm;unfold Z66_j4;all_goals rfl
  all_goals exact hj4
 intro e7;refine Eq.trans ?_ (hKb7 _).symm;try dsimp only
 all_goals rfl
def Z79_q (a0:TDoc) (a1:Bs) (a2:Bs) (a3:Bs):Option (Sl TFault):=guardO (!(((a1==([]:Bs)))||((a2==([]:Bs))))) (Z66_q a0 a1 a2) false fun x4=>bif ((((a1==([]:Bs)))||((a2==([]:Bs))))||x4) then(some (Sl.nil:Sl TFault)) else(some (⟨false,[(TFault.mk (25:Int) a3)]⟩:Sl TFault))
theorem Z79_eq (a0:TDoc) (a1:Bs) (a2:Bs) (a3:Bs):Z79 a0 a1 a2 a3=Z79_q a0 a1 a2 a3:=by
 unfold Z79 Z79_q;refine Eq.trans ?_ (Q.some_bind _);refine Q.guardOO (Z66_eq _ _ _) fun x4=>?_;refine Q.condO ?_ ?_
 ·all_goals rfl
 all_goals rfl
def Z89_q (a0:TDoc) (a1:Bs) (a2:Bs):Bs:=on (Z45_q a0 a1) fun x3=>on (Z44_q x3.1 a2) fun x5=>bif ((((a1==([]:Bs)))||(!x3.2))||(!x5.2)) then(([]:Bs)) else(on (Z85_q a0 x5.1.FType.FName) fun x11=>x11)
theorem Z89_eq (a0:TDoc) (a1:Bs) (a2:Bs):Z89 a0 a1 a2=some (Z89_q a0 a1 a2):=by
 unfold Z89 Z89_q;refine Q.bindP (Z45_eq _ _) fun x3 hx_x3=>?_;refine Q.bindP (Z44_eq _ _) fun x5 hx_x5=>?_;refine Q.condP ?_ ?_
 ·all_goals rfl
 refine Q.bindP (Z85_eq _ _) fun x11 hx_x11=>?_;all_goals rfl
def Z84_q (a0:TSel):Bs:=bif (!(a0.FAlias==([]:Bs))) then(a0.FAlias) else(a0.FName)
theorem Z84_eq (a0:TSel):Z84 a0=some (Z84_q a0):=by
 unfold Z84 Z84_q;refine Q.condP ?_ ?_
 ·all_goals rfl
 all_goals rfl
def Z86_q7 (a0:TDoc) (a1:TQuery) (a3:Bs) (a4:Bs) (k_rec_39:TDoc->TQuery->(Sl TSel)->Bs->Bs->Option (Sl TFault)):List TSel->(Sl TFault)->Option ((Sl TFault))
 | [],s11_8=>some s11_8
 | h7::r7,s11_8=>on (h7) fun x17=>Option.bind (bif (decide (x17.FKind=(2:Int))) then(on (Z77_q a1 x17.FName) fun x22=>bif (!x22.2) then((appC 24 s11_8 (⟨false,[(TFault.mk (24:Int) a4)]⟩:Sl TFault)).bind fun x25=>some x25) else(on (Z85_q a0 x22.1.FOn) fun x26=>(Z79_q a0 a3 x26 a4).bind fun x27=>(appC 24 s11_8 x27).bind fun x28=>some x28)) else(bif (decide (x17.FKind=(3:Int))) then(Option.bind (bif (!(x17.FOn==([]:Bs))) then(on (Z85_q a0 x17.FOn) fun x40=>Option.bind (bif ((x40==([]:Bs))) then((appC 24 s11_8 (⟨false,[(TFault.mk (24:Int) a4)]⟩:Sl TFault)).bind fun x47=>some x47) else(some s11_8)) fun s11_42=>(Z79_q a0 a3 x40 a4).bind fun x43=>(appC 24 s11_42 x43).bind fun x44=>some (x44,x40)) else(some (s11_8,a3))) fun z32=>(k_rec_39 a0 a1 x17.FSels z32.2 a4).bind fun x35=>(appC 24 z32.1 x35).bind fun x36=>some x36) else(on (Z89_q a0 a3 x17.FName) fun x48=>(catC a4 ([47]:Bs)).bind fun x49=>on (Z84_q x17) fun x50=>(catC x49 x50).bind fun x51=>(k_rec_39 a0 a1 x17.FSels x48 x51).bind fun x52=>(appC 24 s11_8 x52).bind fun x53=>some x53))) fun s11_15=>Z86_q7 a0 a1 a3 a4 k_rec_39 (r7) s11_15
theorem Z86_l7_qe {a0:TDoc}{a1:TQuery}{a2:(Sl TSel)}{a3:Bs}{a4:Bs}{k_rec_39:TDoc->TQuery->(Sl TSel)->Bs->Bs->Option (Sl TFault)}  (Kb7:((Sl TFault))->Option (Sl TFault)) (hend:∀(n7:Nat) (s11_8:(Sl TFault)) (s12_9:Nat),Z86_j3   s11_8=Kb7 s11_8):∀(n7:Nat) (s11_8:(Sl TFault)) (s12_9:Nat),(0<n7/\a2.l.length<s12_9+n7)->Z86_l7 a0 a1 a2 a3 a4 k_rec_39 n7 s11_8 s12_9=Option.bind (Z86_q7 a0 a1 a3 a4 k_rec_39 (a2.l.drop s12_9) s11_8) Kb7:=by
 intro n7;induction n7 with
 | zero=>intro s11_8 s12_9 hn; exact absurd hn.1 (by omega)
 | succ n7 ih7 =>
  intro s11_8 s12_9 hn;rw [Z86_l7];by_cases hlt:s12_9<a2.l.length
  ·obtain⟨h7,hh7⟩:∃x,a2.l[s12_9]?=some x:=⟨_,List.getElem?_eq_getElem hlt⟩;rw [Q.drop_of hh7,Z86_q7];refine Q.condT (Q.ltT hlt) ?_;refine Q.bindPO hh7 fun x17 hx_x17=>?_;refine Q.wrapOO fun Kj14 hKj14=>?_;have hj14:∀(s11_15:(Sl TFault)),Z86_j14 s12_9 (Z86_l7 a0 a1 a2 a3 a4 k_rec_39 n7) s11_15=Kj14 s11_15:=by
    intro s11_15;refine Eq.trans ?_ (hKj14 _).symm;unfold Z86_j14;all_goals exact ih7 _ _ ⟨by omega,by omega⟩
   refine Q.condO ?_ ?_
   ·refine Q.bindPO (Z77_eq _ _) fun x22 hx_x22=>?_;refine Q.condO ?_ ?_
    ·refine Q.bindO rfl fun x25=>?_;all_goals exact hj14 _
    refine Q.bindPO (Z85_eq _ _) fun x26 hx_x26=>?_;refine Q.bindO (Z79_eq _ _ _ _) fun x27=>?_;refine Q.bindO rfl fun x28=>?_;all_goals exact hj14 _
   refine Q.condO ?_ ?_
   ·refine Q.wrapOO fun Kj32 hKj32=>?_;have hj32:∀(s11_33:(Sl TFault)) (s16_34:Bs),Z86_j32 a0 a1 a4 s12_9 x17 (Z86_l7 a0 a1 a2 a3 a4 k_rec_39 n7) k_rec_39 s11_33 s16_34=Kj32 (s11_33,s16_34):=by
     intro s11_33 s16_34;refine Eq.trans ?_ (hKj32 _).symm;try dsimp only
     unfold Z86_j32;refine Q.bindO rfl fun x35=>?_;refine Q.bindO rfl fun x36=>?_;all_goals exact hj14 _
    refine Q.condO ?_ ?_
    ·refine Q.bindPO (Z85_eq _ _) fun x40 hx_x40=>?_;refine Q.wrapOO fun Kj41 hKj41=>?_;have hj41:∀(s11_42:(Sl TFault)),Z86_j41 a0 a1 a3 a4 s12_9 x17 x40 (Z86_l7 a0 a1 a2 a3 a4 k_rec_39 n7) k_rec_39 s11_42=Kj41 s11_42:=by
      intro s11_42;refine Eq.trans ?_ (hKj41 _).symm;unfold Z86_j41;refine Q.bindO (Z79_eq _ _ _ _) fun x43=>?_;refine Q.bindO rfl fun x44=>?_;all_goals exact hj32 _ _
     refine Q.condO ?_ ?_
     ·refine Q.bindO rfl fun x47=>?_;all_goals exact hj41 _
     all_goals exact hj41 _
    all_goals exact hj32 _ _
   refine Q.bindPO (Z89_eq _ _ _) fun x48 hx_x48=>?_;refine Q.bindO rfl fun x49=>?_;refine Q.bindPO (Z84_eq _) fun x50 hx_x50=>?_;refine Q.bindO rfl fun x51=>?_;refine Q.bindO rfl fun x52=>?_;refine Q.bindO rfl fun x53=>?_;all_goals exact hj14 _
  rw [List.drop_of_length_le (by omega),Z86_q7];refine Q.condF (Q.ltF hlt) ?_;exact hend n7 s11_8 s12_9
def Z86_qn:Nat->TDoc->TQuery->(Sl TSel)->Bs->Bs->Option (Sl TFault)
 | 0,_,_,_,_,_=>none
 | n+1,a0,a1,a2,a3,a4=>Option.bind (Z86_q7 a0 a1 a3 a4 (Z86_qn n) a2.l (Sl.nil:Sl TFault)) fun s11_8=>on (s11_8) fun s11_4=>some s11_4
theorem Z86_qall:∀n:Nat,Z86_n n=Z86_qn n:=by
 intro n;induction n with
 | zero=>exact(by funext a0 a1 a2 a3 a4; first|rfl|(rw [Z86_n,Z86_qn]))
 | succ n ih =>
  funext a0 a1 a2 a3 a4
  refine Eq.trans ?_ (Q.some_bind _);rw [Z86_n,Z86_qn];try rw [ih]
  refine Q.wrapOO fun Kb7 hKb7=>?_;refine Z86_l7_qe  Kb7 ?_ _ _ _ ⟨Nat.succ_pos _,by omega⟩;intro n7 s11_8 s12_9;refine Eq.trans ?_ (hKb7 _).symm;refine Q.wrapPO fun Kj3 hKj3=>?_;have hj3:∀(s11_4:(Sl TFault)),Z86_j3  s11_4=Kj3 s11_4:=by
   intro s11_4;refine Eq.trans ?_ (hKj3 _).symm;unfold Z86_j3;all_goals rfl
  all_goals exact hj3 _
def Z86_q (a0:TDoc) (a1:TQuery) (a2:(Sl TSel)) (a3:Bs) (a4:Bs):Option (Sl TFault):=Z86_qn F0 a0 a1 a2 a3 a4
theorem Z86_eq (a0:TDoc) (a1:TQuery) (a2:(Sl TSel)) (a3:Bs) (a4:Bs):Z86 a0 a1 a2 a3 a4=Z86_q a0 a1 a2 a3 a4:=by
 unfold Z86 Z86_q; rw [(Z86_qall F0)]
def Z50_q (a0:Int):Bs:=bif (decide (a0=(1:Int))) then(([81,117,101,114,121]:Bs)) else(bif (decide (a0=(2:Int))) then(([77,117,116,97,116,105,111,110]:Bs)) else(bif (decide (a0=(3:Int))) then(([83,117,98,115,99,114,105,112,116,105,111,110]:Bs)) else(([]:Bs))))
theorem Z50_eq (a0:Int):Z50 a0=some (Z50_q a0):=by
 unfold Z50 Z50_q;refine Q.condP ?_ ?_
 ·all_goals rfl
 refine Q.condP ?_ ?_
 ·all_goals rfl
 refine Q.condP ?_ ?_
 ·all_goals rfl
 all_goals rfl
def Z83_q5 (a1:Bs):List Bs->Unit ⊕ Bool
 | []=>Sum.inl ()
 | h5::r5=>on (h5) fun x13=>bif ((x13==a1)) then(Sum.inr true) else(Z83_q5 a1 (r5) )
theorem Z83_l5_qe {a0:(Sl Bs)}{a1:Bs}  (Kb5:(Unit ⊕ Bool)->Option Bool) (hend:∀(n5:Nat) (s5_6:Nat),Z83_j2   =Kb5 (Sum.inl ())) (hret:∀e:Bool,some e=Kb5 (Sum.inr e)):∀(n5:Nat) (s5_6:Nat),(0<n5/\a0.l.length<s5_6+n5)->Z83_l5 a0 a1 n5 s5_6=Kb5 (Z83_q5 a1 (a0.l.drop s5_6) ):=by
 intro n5;induction n5 with
 | zero=>intro s5_6 hn; exact absurd hn.1 (by omega)
 | succ n5 ih5 =>
  intro s5_6 hn;rw [Z83_l5];by_cases hlt:s5_6<a0.l.length
  ·obtain⟨h5,hh5⟩:∃x,a0.l[s5_6]?=some x:=⟨_,List.getElem?_eq_getElem hlt⟩;rw [Q.drop_of hh5,Z83_q5];refine Q.condT (Q.ltT hlt) ?_;refine Q.bindP hh5 fun x13 hx_x13=>?_;refine Q.condP ?_ ?_
   ·all_goals exact hret _
   all_goals exact ih5 _ ⟨by omega,by omega⟩
  rw [List.drop_of_length_le (by omega),Z83_q5];refine Q.condF (Q.ltF hlt) ?_;exact hend n5 s5_6
def Z83_q (a0:(Sl Bs)) (a1:Bs):Bool:=on (Z83_q5 a1 a0.l ) fun o5=>match o5 with|Sum.inl _=>(on (()) fun _=>false)|Sum.inr e5=>(e5)
theorem Z83_eq (a0:(Sl Bs)) (a1:Bs):Z83 a0 a1=some (Z83_q a0 a1):=by
 unfold Z83 Z83_q;refine Q.wrapPP fun Kb5 hKb5=>?_;refine Z83_l5_qe  Kb5 ?_ ?_ _ _ ⟨Nat.succ_pos _,by omega⟩
 ·intro n5 s5_6;refine Eq.trans ?_ (hKb5 _).symm;try dsimp only
  refine Q.wrapPP fun Kj2 hKj2=>?_;have hj2:Z83_j2  =Kj2 ():=by
   refine Eq.trans ?_ (hKj2 _).symm;unfold Z83_j2;all_goals rfl
  all_goals exact hj2
 intro e5;refine Eq.trans ?_ (hKb5 _).symm;try dsimp only
 all_goals rfl
def Z88_q8 (a0:TQuery) (k_rec_83:TQuery->(Sl TSel)->(Sl Bs)->Option ((Sl Bs)×Bool)):List TSel->(Sl Bs)->Bool->Option (((Sl Bs)×Bool))
 | [],s2_9,s8_10=>some (s2_9,s8_10)
 | h8::r8,s2_9,s8_10=>on (h8) fun x20=>on (h8) fun x29=>Option.bind (on (fun(s2_22:(Sl Bs)) (s8_23:Bool) (s10_24:(Sl TSel))=>(k_rec_83 a0 s10_24 s2_22).bind fun x26=>some (x26.1,(s8_23&&x26.2))) fun kj21=>bif (decide (x29.FKind=(2:Int))) then(on (h8) fun x32=>on (Z77_q a0 x32.FName) fun x33=>on (bif (!x33.2) then(false) else(s8_10)) fun s8_35=>on (bif !(!x33.2) then Z83_q s2_9 x33.1.FName else false) fun x38=>bif ((!x33.2)||x38) then(some (s2_9,s8_35)) else((appC 16 s2_9 (⟨false,[x33.1.FName]⟩:Sl Bs)).bind fun x41=>kj21 x41 s8_35 x33.1.FSels)) else(kj21 s2_9 s8_10 x20.FSels)) fun z16=>Z88_q8 a0 k_rec_83 (r8) z16.1 z16.2
theorem Z88_l8_qe {a0:TQuery}{a1:(Sl TSel)}{k_rec_83:TQuery->(Sl TSel)->(Sl Bs)->Option ((Sl Bs)×Bool)}  (Kb8:(((Sl Bs)×Bool))->Option ((Sl Bs)×Bool)) (hend:∀(n8:Nat) (s2_9:(Sl Bs)) (s8_10:Bool) (s9_11:Nat),Z88_j3   s2_9 s8_10=Kb8 (s2_9,s8_10)):∀(n8:Nat) (s2_9:(Sl Bs)) (s8_10:Bool) (s9_11:Nat),(0<n8/\a1.l.length<s9_11+n8)->Z88_l8 a0 a1 k_rec_83 n8 s2_9 s8_10 s9_11=Option.bind (Z88_q8 a0 k_rec_83 (a1.l.drop s9_11) s2_9 s8_10) Kb8:=by
 intro n8;induction n8 with
 | zero=>intro s2_9 s8_10 s9_11 hn; exact absurd hn.1 (by omega)
 | succ n8 ih8 =>
  intro s2_9 s8_10 s9_11 hn;rw [Z88_l8];by_cases hlt:s9_11<a1.l.length
  ·obtain⟨h8,hh8⟩:∃x,a1.l[s9_11]?=some x:=⟨_,List.getElem?_eq_getElem hlt⟩;rw [Q.drop_of hh8,Z88_q8];refine Q.condT (Q.ltT hlt) ?_;refine Q.bindPO hh8 fun x20 hx_x20=>?_;refine Q.bindPO hh8 fun x29 hx_x29=>?_;refine Q.wrapOO fun Kj16 hKj16=>?_;have hj16:∀(s2_17:(Sl Bs)) (s8_18:Bool),Z88_j16 s9_11 (Z88_l8 a0 a1 k_rec_83 n8) s2_17 s8_18=Kj16 (s2_17,s8_18):=by
    intro s2_17 s8_18;refine Eq.trans ?_ (hKj16 _).symm;try dsimp only
    unfold Z88_j16;all_goals exact ih8 _ _ _ ⟨by omega,by omega⟩
   refine Q.mixO fun kj21 hkj21=>?_;have hj21:∀(s2_22:(Sl Bs)) (s8_23:Bool) (s10_24:(Sl TSel)),Z88_j21 a0 s9_11 (Z88_l8 a0 a1 k_rec_83 n8) k_rec_83 s2_22 s8_23 s10_24=Option.bind (kj21 s2_22 s8_23 s10_24) Kj16:=by
    intro s2_22 s8_23 s10_24;unfold Z88_j21;rw [hkj21];try dsimp only
    refine Q.bindO rfl fun x26=>?_;all_goals exact hj16 _ _
   refine Q.condO ?_ ?_
   ·refine Q.bindPO hh8 fun x32 hx_x32=>?_;refine Q.bindPO (Z77_eq _ _) fun x33 hx_x33=>?_;refine Q.wrapPO fun Kj34 hKj34=>?_;have hj34:∀(s8_35:Bool),Z88_j34 a0 s2_9 s9_11 x33 (Z88_l8 a0 a1 k_rec_83 n8) k_rec_83 s8_35=Kj34 s8_35:=by
     intro s8_35;refine Eq.trans ?_ (hKj34 _).symm;unfold Z88_j34;refine Q.guardPO (Z83_eq _ _) fun x38 hx_x38=>?_;refine Q.condO ?_ ?_
     ·all_goals exact hj16 _ _
     refine Q.bindO rfl fun x41=>?_;all_goals exact hj21 _ _ _
    refine Q.condP ?_ ?_
    ·all_goals exact hj34 _
    all_goals exact hj34 _
   all_goals exact hj21 _ _ _
  rw [List.drop_of_length_le (by omega),Z88_q8];refine Q.condF (Q.ltF hlt) ?_;exact hend n8 s2_9 s8_10 s9_11
def Z88_qn:Nat->TQuery->(Sl TSel)->(Sl Bs)->Option ((Sl Bs)×Bool)
 | 0,_,_,_=>none
 | n+1,a0,a1,a2=>Option.bind (Z88_q8 a0 (Z88_qn n) a1.l a2 true) fun z8=>on ((z8.1,z8.2)) fun z3=>some (z3.1,z3.2)
theorem Z88_qall:∀n:Nat,Z88_n n=Z88_qn n:=by
 intro n;induction n with
 | zero=>exact(by funext a0 a1 a2; first|rfl|(rw [Z88_n,Z88_qn]))
 | succ n ih =>
  funext a0 a1 a2
  refine Eq.trans ?_ (Q.some_bind _);rw [Z88_n,Z88_qn];try rw [ih]
  refine Q.wrapOO fun Kb8 hKb8=>?_;refine Z88_l8_qe  Kb8 ?_ _ _ _ _ ⟨Nat.succ_pos _,by omega⟩;intro n8 s2_9 s8_10 s9_11;refine Eq.trans ?_ (hKb8 _).symm;try dsimp only
  refine Q.wrapPO fun Kj3 hKj3=>?_;have hj3:∀(s2_4:(Sl Bs)) (s8_5:Bool),Z88_j3  s2_4 s8_5=Kj3 (s2_4,s8_5):=by
   intro s2_4 s8_5;refine Eq.trans ?_ (hKj3 _).symm;try dsimp only
   unfold Z88_j3;all_goals rfl
  all_goals exact hj3 _ _
def Z88_q (a0:TQuery) (a1:(Sl TSel)) (a2:(Sl Bs)):Option ((Sl Bs)×Bool):=Z88_qn F0 a0 a1 a2
theorem Z88_eq (a0:TQuery) (a1:(Sl TSel)) (a2:(Sl Bs)):Z88 a0 a1 a2=Z88_q a0 a1 a2:=by
 unfold Z88 Z88_q; rw [(Z88_qall F0)]
def Z80_q (a0:TQuery) (a1:TFrag):Option Bool:=(Z88_q a0 a1.FSels (Sl.nil:Sl Bs)).bind fun x4=>on (Z83_q x4.1 a1.FName) fun x6=>some x6
theorem Z80_eq (a0:TQuery) (a1:TFrag):Z80 a0 a1=Z80_q a0 a1:=by
 unfold Z80 Z80_q;refine Eq.trans ?_ (Q.some_bind _);refine Q.bindO (Z88_eq _ _ _) fun x4=>?_;refine Q.bindPO (Z83_eq _ _) fun x6 hx_x6=>?_;all_goals rfl
def Z87_q5 (a0:TQuery) (a1:Bs):List TOp->Option (Unit ⊕ Bool)
 | []=>some (Sum.inl ())
 | h5::r5=>on (h5) fun x14=>(Z88_q a0 x14.FSels (Sl.nil:Sl Bs)).bind fun x15=>on (Z83_q x15.1 a1) fun x17=>bif x17 then(some (Sum.inr true)) else(Z87_q5 a0 a1 (r5) )
theorem Z87_l5_qe {a0:TQuery}{a1:Bs}  (Kb5:(Unit ⊕ Bool)->Option Bool) (hend:∀(n5:Nat) (s5_6:Nat),Z87_j2   =Kb5 (Sum.inl ())) (hret:∀e:Bool,some e=Kb5 (Sum.inr e)):∀(n5:Nat) (s5_6:Nat),(0<n5/\a0.FOps.l.length<s5_6+n5)->Z87_l5 a0 a1 n5 s5_6=Option.bind (Z87_q5 a0 a1 (a0.FOps.l.drop s5_6) ) Kb5:=by
 intro n5;induction n5 with
 | zero=>intro s5_6 hn; exact absurd hn.1 (by omega)
 | succ n5 ih5 =>
  intro s5_6 hn;rw [Z87_l5];by_cases hlt:s5_6<a0.FOps.l.length
  ·obtain⟨h5,hh5⟩:∃x,a0.FOps.l[s5_6]?=some x:=⟨_,List.getElem?_eq_getElem hlt⟩;rw [Q.drop_of hh5,Z87_q5];refine Q.condT (Q.ltT hlt) ?_;refine Q.bindPO hh5 fun x14 hx_x14=>?_;refine Q.bindO (Z88_eq _ _ _) fun x15=>?_;refine Q.bindPO (Z83_eq _ _) fun x17 hx_x17=>?_;refine Q.condO ?_ ?_
   ·all_goals exact hret _
   all_goals exact ih5 _ ⟨by omega,by omega⟩
  rw [List.drop_of_length_le (by omega),Z87_q5];refine Q.condF (Q.ltF hlt) ?_;exact hend n5 s5_6
def Z87_q (a0:TQuery) (a1:Bs):Option Bool:=Option.bind (Z87_q5 a0 a1 a0.FOps.l ) fun o5=>match o5 with|Sum.inl _=>(on (()) fun _=>some false)|Sum.inr e5=>(some e5)
theorem Z87_eq (a0:TQuery) (a1:Bs):Z87 a0 a1=Z87_q a0 a1:=by
 unfold Z87 Z87_q;refine Eq.trans ?_ (Q.some_bind _);refine Q.wrapOO fun Kb5 hKb5=>?_;refine Z87_l5_qe  Kb5 ?_ ?_ _ _ ⟨Nat.succ_pos _,by omega⟩
 ·intro n5 s5_6;refine Eq.trans ?_ (hKb5 _).symm;try dsimp only
  refine Q.wrapPO fun Kj2 hKj2=>?_;have hj2:Z87_j2  =Kj2 ():=by
   refine Eq.trans ?_ (hKj2 _).symm;unfold Z87_j2;all_goals rfl
  all_goals exact hj2
 intro e5;refine Eq.trans ?_ (hKb5 _).symm;try dsimp only
 all_goals rfl
def Z76_q42 (a0:TDoc) (a1:TQuery):List TOp->(Sl TFault)->Option ((Sl TFault))
 | [],s5_43=>some s5_43
 | h42::r42,s5_43=>on (h42) fun x50=>on (h42) fun x51=>on (Z50_q x51.FKind) fun x52=>on (Z85_q a0 x52) fun x53=>on (h42) fun x54=>(Z86_q a0 a1 x50.FSels x53 x54.FName).bind fun x55=>(appC 24 s5_43 x55).bind fun x56=>Z76_q42 a0 a1 (r42) x56
theorem Z76_l42_qe {a0:TDoc}{a1:TQuery}  (Kb42:((Sl TFault))->Option (Sl TFault)) (hend:∀(n42:Nat) (s5_43:(Sl TFault)) (s6_44:Nat),Z76_j3 a0 a1  s5_43=Kb42 s5_43):∀(n42:Nat) (s5_43:(Sl TFault)) (s6_44:Nat),(0<n42/\a1.FOps.l.length<s6_44+n42)->Z76_l42 a0 a1 n42 s5_43 s6_44=Option.bind (Z76_q42 a0 a1 (a1.FOps.l.drop s6_44) s5_43) Kb42:=by
 intro n42;induction n42 with
 | zero=>intro s5_43 s6_44 hn; exact absurd hn.1 (by omega)
 | succ n42 ih42 =>
  intro s5_43 s6_44 hn;rw [Z76_l42];by_cases hlt:s6_44<a1.FOps.l.length
  ·obtain⟨h42,hh42⟩:∃x,a1.FOps.l[s6_44]?=some x:=⟨_,List.getElem?_eq_getElem hlt⟩;rw [Q.drop_of hh42,Z76_q42];refine Q.condT (Q.ltT hlt) ?_;refine Q.bindPO hh42 fun x50 hx_x50=>?_;refine Q.bindPO hh42 fun x51 hx_x51=>?_;refine Q.bindPO (Z50_eq _) fun x52 hx_x52=>?_;refine Q.bindPO (Z85_eq _ _) fun x53 hx_x53=>?_;refine Q.bindPO hh42 fun x54 hx_x54=>?_;refine Q.bindO (Z86_eq _ _ _ _ _) fun x55=>?_;refine Q.bindO rfl fun x56=>?_
   all_goals exact ih42 _ _ ⟨by omega,by omega⟩
  rw [List.drop_of_length_le (by omega),Z76_q42];refine Q.condF (Q.ltF hlt) ?_;exact hend n42 s5_43 s6_44
def Z76_q9 (a0:TDoc) (a1:TQuery):List TFrag->(Sl TFault)->Option ((Sl TFault))
 | [],s5_10=>some s5_10
 | h9::r9,s5_10=>on (h9) fun x19=>on (Z85_q a0 x19.FOn) fun x38=>Option.bind (bif ((x38==([]:Bs))) then((appC 24 s5_10 (⟨false,[(TFault.mk (24:Int) x19.FName)]⟩:Sl TFault)).bind fun x40=>some x40) else(some s5_10)) fun s5_21=>(Z80_q a1 x19).bind fun x34=>Option.bind (bif x34 then((appC 24 s5_21 (⟨false,[(TFault.mk (24:Int) x19.FName)]⟩:Sl TFault)).bind fun x36=>some x36) else(some s5_21)) fun s5_23=>(Z87_q a1 x19.FName).bind fun x30=>Option.bind (bif (!x30) then((appC 24 s5_23 (⟨false,[(TFault.mk (26:Int) x19.FName)]⟩:Sl TFault)).bind fun x32=>some x32) else(some s5_23)) fun s5_25=>on (Z85_q a0 x19.FOn) fun x26=>(Z86_q a0 a1 x19.FSels x26 x19.FName).bind fun x27=>(appC 24 s5_25 x27).bind fun x28=>on (x28) fun s5_17=>Z76_q9 a0 a1 (r9) s5_17
theorem Z76_l9_qe {a0:TDoc}{a1:TQuery}  (Kb9:((Sl TFault))->Option (Sl TFault)) (hend:∀(n9:Nat) (s5_10:(Sl TFault)) (s7_11:Nat),Z76_j5   s5_10=Kb9 s5_10):∀(n9:Nat) (s5_10:(Sl TFault)) (s7_11:Nat),(0<n9/\a1.FFrags.l.length<s7_11+n9)->Z76_l9 a0 a1 n9 s5_10 s7_11=Option.bind (Z76_q9 a0 a1 (a1.FFrags.l.drop s7_11) s5_10) Kb9:=by
 intro n9;induction n9 with
 | zero=>intro s5_10 s7_11 hn; exact absurd hn.1 (by omega)
 | succ n9 ih9 =>
  intro s5_10 s7_11 hn;rw [Z76_l9];by_cases hlt:s7_11<a1.FFrags.l.length
  ·obtain⟨h9,hh9⟩:∃x,a1.FFrags.l[s7_11]?=some x:=⟨_,List.getElem?_eq_getElem hlt⟩;rw [Q.drop_of hh9,Z76_q9];refine Q.condT (Q.ltT hlt) ?_;refine Q.bindPO hh9 fun x19 hx_x19=>?_;refine Q.bindPO (Z85_eq _ _) fun x38 hx_x38=>?_;refine Q.wrapOO fun Kj20 hKj20=>?_;have hj20:∀(s5_21:(Sl TFault)),Z76_j20 a0 a1 s7_11 x19 (Z76_l9 a0 a1 n9) s5_21=Kj20 s5_21:=by
    intro s5_21;refine Eq.trans ?_ (hKj20 _).symm;unfold Z76_j20;refine Q.bindO (Z80_eq _ _) fun x34=>?_;refine Q.wrapOO fun Kj22 hKj22=>?_;have hj22:∀(s5_23:(Sl TFault)),Z76_j22 a0 a1 s7_11 x19 (Z76_l9 a0 a1 n9) s5_23=Kj22 s5_23:=by
     intro s5_23;refine Eq.trans ?_ (hKj22 _).symm;unfold Z76_j22;refine Q.bindO (Z87_eq _ _) fun x30=>?_;refine Q.wrapOO fun Kj24 hKj24=>?_;have hj24:∀(s5_25:(Sl TFault)),Z76_j24 a0 a1 s7_11 x19 (Z76_l9 a0 a1 n9) s5_25=Kj24 s5_25:=by
      intro s5_25;refine Eq.trans ?_ (hKj24 _).symm;unfold Z76_j24;refine Q.bindPO (Z85_eq _ _) fun x26 hx_x26=>?_;refine Q.bindO (Z86_eq _ _ _ _ _) fun x27=>?_;refine Q.bindO rfl fun x28=>?_;refine Q.wrapPO fun Kj16 hKj16=>?_;have hj16:∀(s5_17:(Sl TFault)),Z76_j16 s7_11 (Z76_l9 a0 a1 n9) s5_17=Kj16 s5_17:=by
       intro s5_17;refine Eq.trans ?_ (hKj16 _).symm;unfold Z76_j16;all_goals exact ih9 _ _ ⟨by omega,by omega⟩
      all_goals exact hj16 _
     refine Q.condO ?_ ?_
     ·refine Q.bindO rfl fun x32=>?_;all_goals exact hj24 _
     all_goals exact hj24 _
    refine Q.condO ?_ ?_
    ·refine Q.bindO rfl fun x36=>?_;all_goals exact hj22 _
    all_goals exact hj22 _
   refine Q.condO ?_ ?_
   ·refine Q.bindO rfl fun x40=>?_;all_goals exact hj20 _
   all_goals exact hj20 _
  rw [List.drop_of_length_le (by omega),Z76_q9];refine Q.condF (Q.ltF hlt) ?_;exact hend n9 s5_10 s7_11
def Z76_q (a0:TDoc) (a1:TQuery):Option (Sl TFault):=Option.bind (Z76_q42 a0 a1 a1.FOps.l (Sl.nil:Sl TFault)) fun s5_43=>on (s5_43) fun s5_4=>Option.bind (Z76_q9 a0 a1 a1.FFrags.l s5_4) fun s5_10=>on (s5_10) fun s5_6=>some s5_6
theorem Z76_eq (a0:TDoc) (a1:TQuery):Z76 a0 a1=Z76_q a0 a1:=by
 unfold Z76 Z76_q;refine Eq.trans ?_ (Q.some_bind _);refine Q.wrapOO fun Kb42 hKb42=>?_;refine Z76_l42_qe  Kb42 ?_ _ _ _ ⟨Nat.succ_pos _,by omega⟩;intro n42 s5_43 s6_44;refine Eq.trans ?_ (hKb42 _).symm;refine Q.wrapPO fun Kj3 hKj3=>?_;have hj3:∀(s5_4:(Sl TFault)),Z76_j3 a0 a1 s5_4=Kj3 s5_4:=by
  intro s5_4;refine Eq.trans ?_ (hKj3 _).symm;unfold Z76_j3;refine Q.wrapOO fun Kb9 hKb9=>?_;refine Z76_l9_qe  Kb9 ?_ _ _ _ ⟨Nat.succ_pos _,by omega⟩;intro n9 s5_10 s7_11;refine Eq.trans ?_ (hKb9 _).symm;refine Q.wrapPO fun Kj5 hKj5=>?_;have hj5:∀(s5_6:(Sl TFault)),Z76_j5  s5_6=Kj5 s5_6:=by
   intro s5_6;refine Eq.trans ?_ (hKj5 _).symm;unfold Z76_j5;all_goals rfl
  all_goals exact hj5 _
 all_goals exact hj3 _
def Z15_q (a0:TDoc) (a1:TQuery):Option Bool:=(Z48_q a0).bind fun x3=>guardO ((!x3)) (Z78_q a1) false fun x4=>guardO (((!x3)&&(!x4))) (Z34_q a1) false fun x5=>guardO ((((!x3)&&(!x4))&&x5)) (Z41_q a0 false) (Sl.nil:Sl TFault) fun x6=>guardO (((((!x3)&&(!x4))&&x5)&&(decide (((x6.l.length:Nat):Int)=(0:Int))))) (Z64_q a0) (Sl.nil:Sl TFault) fun x7=>guardO ((((((!x3)&&(!x4))&&x5)&&(decide (((x6.l.length:Nat):Int)=(0:Int))))&&(decide (((x7.l.length:Nat):Int)=(0:Int))))) (Z76_q a0 a1) (Sl.nil:Sl TFault) fun x8=>some ((((((!x3)&&(!x4))&&x5)&&(decide (((x6.l.length:Nat):Int)=(0:Int))))&&(decide (((x7.l.length:Nat):Int)=(0:Int))))&&(decide (((x8.l.length:Nat):Int)=(0:Int))))
theorem Z15_eq (a0:TDoc) (a1:TQuery):Z15 a0 a1=Z15_q a0 a1:=by
 unfold Z15 Z15_q;refine Eq.trans ?_ (Q.some_bind _);refine Q.bindO (Z48_eq _) fun x3=>?_;refine Q.guardOO (Z78_eq _) fun x4=>?_;refine Q.guardOO (Z34_eq _) fun x5=>?_;refine Q.guardOO (Z41_eq _ _) fun x6=>?_;refine Q.guardOO (Z64_eq _) fun x7=>?_;refine Q.guardOO (Z76_eq _ _) fun x8=>?_;all_goals rfl
def Z9_q7 (a1:Bs):List TFrag->Unit ⊕ ((TFrag×Bool))
 | []=>Sum.inl ()
 | h7::r7=>on (h7) fun x15=>bif ((x15.FName==a1)) then(Sum.inr (x15,true)) else(Z9_q7 a1 (r7) )
theorem Z9_l7_qe {a0:TQuery}{a1:Bs}  (Kb7:(Unit ⊕ ((TFrag×Bool)))->Option (TFrag×Bool)) (hend:∀(n7:Nat) (s11_8:Nat) (y9_l0:TFrag),Z9_j2   y9_l0=Kb7 (Sum.inl ())) (hret:∀e:(TFrag×Bool),some e=Kb7 (Sum.inr e)):∀(n7:Nat) (s11_8:Nat) (y9_l0:TFrag),(0<n7/\a0.FFrags.l.length<s11_8+n7)->Z9_l7 a0 a1 n7 s11_8 y9_l0=Kb7 (Z9_q7 a1 (a0.FFrags.l.drop s11_8) ):=by
 intro n7;induction n7 with
 | zero=>intro s11_8 y9_l0 hn; exact absurd hn.1 (by omega)
 | succ n7 ih7 =>
  intro s11_8 y9_l0 hn;rw [Z9_l7];by_cases hlt:s11_8<a0.FFrags.l.length
  ·obtain⟨h7,hh7⟩:∃x,a0.FFrags.l[s11_8]?=some x:=⟨_,List.getElem?_eq_getElem hlt⟩;rw [Q.drop_of hh7,Z9_q7];refine Q.condT (Q.ltT hlt) ?_;refine Q.bindP hh7 fun x15 hx_x15=>?_;refine Q.condP ?_ ?_
   ·all_goals exact hret _
   all_goals exact ih7 _ _ ⟨by omega,by omega⟩
  rw [List.drop_of_length_le (by omega),Z9_q7];refine Q.condF (Q.ltF hlt) ?_;exact hend n7 s11_8 y9_l0
def Z9_q (a0:TQuery) (a1:Bs):(TFrag×Bool):=on (Z9_q7 a1 a0.FFrags.l ) fun o7=>match o7 with|Sum.inl _=>(on (()) fun _=>((TFrag.mk ([]:Bs) ([]:Bs) (Sl.nil:Sl TSel)),false))|Sum.inr e7=>(e7)
theorem Z9_eq (a0:TQuery) (a1:Bs):Z9 a0 a1=some (Z9_q a0 a1):=by
 unfold Z9 Z9_q;refine Q.wrapPP fun Kb7 hKb7=>?_;refine Z9_l7_qe  Kb7 ?_ ?_ _ _ _ ⟨Nat.succ_pos _,by omega⟩
 ·intro n7 s11_8 y9_l0;refine Eq.trans ?_ (hKb7 _).symm;try dsimp only
  refine Q.wrapPP fun Kj2 hKj2=>?_;have hj2:∀(y3_l0:TFrag),Z9_j2  y3_l0=Kj2 ():=by
   intro y3_l0;refine Eq.trans ?_ (hKj2 _).symm;unfold Z9_j2;all_goals rfl
  all_goals exact hj2 _
 intro e7;refine Eq.trans ?_ (hKb7 _).symm;try dsimp only
 all_goals rfl
def Z136_q15 (k_rec_56:TValue->(Sl Bs)->Option (Sl Bs)):List TValue->(Sl Bs)->Option ((Sl Bs))
 | [],s1_16=>some s1_16
 | h15::r15,s1_16=>on (h15) fun x23=>(k_rec_56 x23 s1_16).bind fun x24=>Z136_q15 k_rec_56 (r15) x24
theorem Z136_l15_qe {a0:TValue}{k_rec_56:TValue->(Sl Bs)->Option (Sl Bs)}  (Kb15:((Sl Bs))->Option (Sl Bs)) (hend:∀(n15:Nat) (s1_16:(Sl Bs)) (s22_17:Nat),Z136_j2   s1_16=Kb15 s1_16):∀(n15:Nat) (s1_16:(Sl Bs)) (s22_17:Nat),(0<n15/\a0.FItems.l.length<s22_17+n15)->Z136_l15 a0 k_rec_56 n15 s1_16 s22_17=Option.bind (Z136_q15 k_rec_56 (a0.FItems.l.drop s22_17) s1_16) Kb15:=by
 intro n15;induction n15 with
 | zero=>intro s1_16 s22_17 hn; exact absurd hn.1 (by omega)
 | succ n15 ih15 =>
  intro s1_16 s22_17 hn;rw [Z136_l15];by_cases hlt:s22_17<a0.FItems.l.length
  ·obtain⟨h15,hh15⟩:∃x,a0.FItems.l[s22_17]?=some x:=⟨_,List.getElem?_eq_getElem hlt⟩;rw [Q.drop_of hh15,Z136_q15];refine Q.condT (Q.ltT hlt) ?_;refine Q.bindPO hh15 fun x23 hx_x23=>?_;refine Q.bindO rfl fun x24=>?_;all_goals exact ih15 _ _ ⟨by omega,by omega⟩
  rw [List.drop_of_length_le (by omega),Z136_q15];refine Q.condF (Q.ltF hlt) ?_;exact hend n15 s1_16 s22_17
def Z136_qn:Nat->TValue->(Sl Bs)->Option (Sl Bs)
 | 0,_,_=>none
 | n+1,a0,a1=>bif (decide (a0.FKind=(7:Int))) then((appC 16 a1 (⟨false,[a0.FText]⟩:Sl Bs)).bind fun x9=>some x9) else(on (bif (decide (a0.FKind=(5:Int))) then((decide (a0.FKind=(5:Int)))) else((decide (a0.FKind=(6:Int))))) fun s16_11=>Option.bind (bif s16_11 then(Option.bind (Z136_q15 (Z136_qn n) a0.FItems.l a1) fun s1_16=>some s1_16) else(some a1)) fun s1_3=>some s1_3)
theorem Z136_qall:∀n:Nat,Z136_n n=Z136_qn n:=by
 intro n;induction n with
 | zero=>exact(by funext a0 a1; first|rfl|(rw [Z136_n,Z136_qn]))
 | succ n ih =>
  funext a0 a1
  refine Eq.trans ?_ (Q.some_bind _);rw [Z136_n,Z136_qn];try rw [ih]
  refine Q.condO ?_ ?_
  ·refine Q.bindO rfl fun x9=>?_;all_goals rfl
  refine Q.wrapPO fun Kj10 hKj10=>?_;have hj10:∀(s16_11:Bool),Z136_j10 a0 a1 (Z136_qn n) s16_11=Kj10 s16_11:=by
   intro s16_11;refine Eq.trans ?_ (hKj10 _).symm;unfold Z136_j10;refine Q.wrapOO fun Kj2 hKj2=>?_;have hj2:∀(s1_3:(Sl Bs)),Z136_j2  s1_3=Kj2 s1_3:=by
    intro s1_3;refine Eq.trans ?_ (hKj2 _).symm;unfold Z136_j2;all_goals rfl
   refine Q.condO ?_ ?_
   ·refine Q.wrapOO fun Kb15 hKb15=>?_;refine Z136_l15_qe  Kb15 ?_ _ _ _ ⟨Nat.succ_pos _,by omega⟩;intro n15 s1_16 s22_17;refine Eq.trans ?_ (hKb15 _).symm;all_goals exact hj2 _
   all_goals exact hj2 _
  refine Q.condP ?_ ?_
  ·all_goals exact hj10 _
  all_goals exact hj10 _
def Z136_q (a0:TValue) (a1:(Sl Bs)):Option (Sl Bs):=Z136_qn F0 a0 a1
theorem Z136_eq (a0:TValue) (a1:(Sl Bs)):Z136 a0 a1=Z136_q a0 a1:=by
 unfold Z136 Z136_q; rw [(Z136_qall F0)]
end Go.Proofs

namespace Go.Proofs
open Go Go.Ab
def Z137_q63 :List TArg->(Sl Bs)->Option ((Sl Bs))
 | [],s3_64=>some s3_64
 | h63::r63,s3_64=>on (h63) fun x71=>(Z136_q x71.FValue s3_64).bind fun x72=>Z137_q63  (r63) x72
theorem Z137_l63_qe {a0:TQuery}{s22_10:Nat}{y11_c2:(List Bs)}{x19:TSel}{k_next_8:(Sl Bs)->Nat->(List Bs)->Option ((Sl Bs)×(List Bs))}{k_rec_23:TQuery->(Sl TSel)->(List Bs)->(Sl Bs)->Option ((Sl Bs)×(List Bs))}  (Kb63:((Sl Bs))->Option ((Sl Bs)×(List Bs))) (hend:∀(n63:Nat) (s3_64:(Sl Bs)) (s29_65:Nat),Z137_j20 a0 s22_10 y11_c2 x19 k_next_8 k_rec_23 s3_64=Kb63 s3_64):∀(n63:Nat) (s3_64:(Sl Bs)) (s29_65:Nat),(0<n63/\x19.FArgs.l.length<s29_65+n63)->Z137_l63 a0 s22_10 y11_c2 x19 k_next_8 k_rec_23 n63 s3_64 s29_65=Option.bind (Z137_q63  (x19.FArgs.l.drop s29_65) s3_64) Kb63:=by
 intro n63;induction n63 with
 | zero=>intro s3_64 s29_65 hn; exact absurd hn.1 (by omega)
 | succ n63 ih63 =>
  intro s3_64 s29_65 hn;rw [Z137_l63];by_cases hlt:s29_65<x19.FArgs.l.length
  ·obtain⟨h63,hh63⟩:∃x,x19.FArgs.l[s29_65]?=some x:=⟨_,List.getElem?_eq_getElem hlt⟩;rw [Q.drop_of hh63,Z137_q63];refine Q.condT (Q.ltT hlt) ?_;refine Q.bindPO hh63 fun x71 hx_x71=>?_;refine Q.bindO (Z136_eq _ _) fun x72=>?_;all_goals exact ih63 _ _ ⟨by omega,by omega⟩
  rw [List.drop_of_length_le (by omega),Z137_q63];refine Q.condF (Q.ltF hlt) ?_;exact hend n63 s3_64 s29_65
def Z137_q51 :List TArg->(Sl Bs)->Option ((Sl Bs))
 | [],s3_52=>some s3_52
 | h51::r51,s3_52=>on (h51) fun x59=>(Z136_q x59.FValue s3_52).bind fun x60=>Z137_q51  (r51) x60
theorem Z137_l51_qe {s41_41:Nat}{x48:TDir}{k_next_39:(Sl Bs)->Nat->Option ((Sl Bs)×(List Bs))}  (Kb51:((Sl Bs))->Option ((Sl Bs)×(List Bs))) (hend:∀(n51:Nat) (s3_52:(Sl Bs)) (s48_53:Nat),Z137_j45 s41_41 k_next_39 s3_52=Kb51 s3_52):∀(n51:Nat) (s3_52:(Sl Bs)) (s48_53:Nat),(0<n51/\x48.FArgs.l.length<s48_53+n51)->Z137_l51 s41_41 x48 k_next_39 n51 s3_52 s48_53=Option.bind (Z137_q51  (x48.FArgs.l.drop s48_53) s3_52) Kb51:=by
 intro n51;induction n51 with
 | zero=>intro s3_52 s48_53 hn; exact absurd hn.1 (by omega)
 | succ n51 ih51 =>
  intro s3_52 s48_53 hn;rw [Z137_l51];by_cases hlt:s48_53<x48.FArgs.l.length
  ·obtain⟨h51,hh51⟩:∃x,x48.FArgs.l[s48_53]?=some x:=⟨_,List.getElem?_eq_getElem hlt⟩;rw [Q.drop_of hh51,Z137_q51];refine Q.condT (Q.ltT hlt) ?_;refine Q.bindPO hh51 fun x59 hx_x59=>?_;refine Q.bindO (Z136_eq _ _) fun x60=>?_;all_goals exact ih51 _ _ ⟨by omega,by omega⟩
  rw [List.drop_of_length_le (by omega),Z137_q51];refine Q.condF (Q.ltF hlt) ?_;exact hend n51 s3_52 s48_53
def Z137_q39 :List TDir->(Sl Bs)->Option ((Sl Bs))
 | [],s3_40=>some s3_40
 | h39::r39,s3_40=>on (h39) fun x48=>Option.bind (Z137_q51  x48.FArgs.l s3_40) fun s3_52=>on (s3_52) fun s3_46=>Z137_q39  (r39) s3_46
theorem Z137_l39_qe {a0:TQuery}{s22_10:Nat}{y11_c2:(List Bs)}{x19:TSel}{k_next_8:(Sl Bs)->Nat->(List Bs)->Option ((Sl Bs)×(List Bs))}{k_rec_23:TQuery->(Sl TSel)->(List Bs)->(Sl Bs)->Option ((Sl Bs)×(List Bs))}  (Kb39:((Sl Bs))->Option ((Sl Bs)×(List Bs))) (hend:∀(n39:Nat) (s3_40:(Sl Bs)) (s41_41:Nat),Z137_j22 a0 s22_10 y11_c2 x19 k_next_8 k_rec_23 s3_40=Kb39 s3_40):∀(n39:Nat) (s3_40:(Sl Bs)) (s41_41:Nat),(0<n39/\x19.FDirs.l.length<s41_41+n39)->Z137_l39 a0 s22_10 y11_c2 x19 k_next_8 k_rec_23 n39 s3_40 s41_41=Option.bind (Z137_q39  (x19.FDirs.l.drop s41_41) s3_40) Kb39:=by
 intro n39;induction n39 with
 | zero=>intro s3_40 s41_41 hn; exact absurd hn.1 (by omega)
 | succ n39 ih39 =>
  intro s3_40 s41_41 hn;rw [Z137_l39];by_cases hlt:s41_41<x19.FDirs.l.length
  ·obtain⟨h39,hh39⟩:∃x,x19.FDirs.l[s41_41]?=some x:=⟨_,List.getElem?_eq_getElem hlt⟩;rw [Q.drop_of hh39,Z137_q39];refine Q.condT (Q.ltT hlt) ?_;refine Q.bindPO hh39 fun x48 hx_x48=>?_;refine Q.wrapOO fun Kb51 hKb51=>?_;refine Z137_l51_qe  Kb51 ?_ _ _ _ ⟨Nat.succ_pos _,by omega⟩;intro n51 s3_52 s48_53;refine Eq.trans ?_ (hKb51 _).symm;refine Q.wrapPO fun Kj45 hKj45=>?_;have hj45:∀(s3_46:(Sl Bs)),Z137_j45 s41_41 (Z137_l39 a0 s22_10 y11_c2 x19 k_next_8 k_rec_23 n39) s3_46=Kj45 s3_46:=by
    intro s3_46;refine Eq.trans ?_ (hKj45 _).symm;unfold Z137_j45;all_goals exact ih39 _ _ ⟨by omega,by omega⟩
   all_goals exact hj45 _
  rw [List.drop_of_length_le (by omega),Z137_q39];refine Q.condF (Q.ltF hlt) ?_;exact hend n39 s3_40 s41_41
def Z137_q8 (a0:TQuery) (k_rec_23:TQuery->(Sl TSel)->(List Bs)->(Sl Bs)->Option ((Sl Bs)×(List Bs))):List TSel->(Sl Bs)->(List Bs)->Option (((Sl Bs)×(List Bs)))
 | [],s3_9,y11_c2=>some (s3_9,y11_c2)
 | h8::r8,s3_9,y11_c2=>on (h8) fun x19=>Option.bind (Z137_q63  x19.FArgs.l s3_9) fun s3_64=>on (s3_64) fun s3_21=>Option.bind (Z137_q39  x19.FDirs.l s3_21) fun s3_40=>on (s3_40) fun s3_23=>Option.bind (on (fun(s17_26:(Sl TSel)) (y27_c2:(List Bs))=>(k_rec_23 a0 s17_26 y27_c2 s3_23).bind fun x28=>some (x28.1,x28.2)) fun kj25=>bif (decide (x19.FKind=(2:Int))) then(on (Z9_q a0 x19.FName) fun x32=>bif ((!x32.2)||(y11_c2.contains x19.FName)) then(some (s3_23,y11_c2)) else(kj25 x32.1.FSels (insS y11_c2 x19.FName))) else(kj25 x19.FSels y11_c2)) fun z15=>Z137_q8 a0 k_rec_23 (r8) z15.1 z15.2
theorem Z137_l8_qe {a0:TQuery}{a1:(Sl TSel)}{k_rec_23:TQuery->(Sl TSel)->(List Bs)->(Sl Bs)->Option ((Sl Bs)×(List Bs))}  (Kb8:(((Sl Bs)×(List Bs)))->Option ((Sl Bs)×(List Bs))) (hend:∀(n8:Nat) (s3_9:(Sl Bs)) (s22_10:Nat) (y11_c2:(List Bs)),Z137_j2   s3_9 y11_c2=Kb8 (s3_9,y11_c2)):∀(n8:Nat) (s3_9:(Sl Bs)) (s22_10:Nat) (y11_c2:(List Bs)),(0<n8/\a1.l.length<s22_10+n8)->Z137_l8 a0 a1 k_rec_23 n8 s3_9 s22_10 y11_c2=Option.bind (Z137_q8 a0 k_rec_23 (a1.l.drop s22_10) s3_9 y11_c2) Kb8:=by
 intro n8;induction n8 with
 | zero=>intro s3_9 s22_10 y11_c2 hn; exact absurd hn.1 (by omega)
 | succ n8 ih8 =>
  intro s3_9 s22_10 y11_c2 hn;rw [Z137_l8];by_cases hlt:s22_10<a1.l.length
  ·obtain⟨h8,hh8⟩:∃x,a1.l[s22_10]?=some x:=⟨_,List.getElem?_eq_getElem hlt⟩;rw [Q.drop_of hh8,Z137_q8];refine Q.condT (Q.ltT hlt) ?_;refine Q.bindPO hh8 fun x19 hx_x19=>?_;refine Q.wrapOO fun Kb63 hKb63=>?_;refine Z137_l63_qe  Kb63 ?_ _ _ _ ⟨Nat.succ_pos _,by omega⟩;intro n63 s3_64 s29_65;refine Eq.trans ?_ (hKb63 _).symm;refine Q.wrapPO fun Kj20 hKj20=>?_;have hj20:∀(s3_21:(Sl Bs)),Z137_j20 a0 s22_10 y11_c2 x19 (Z137_l8 a0 a1 k_rec_23 n8) k_rec_23 s3_21=Kj20 s3_21:=by
    intro s3_21;refine Eq.trans ?_ (hKj20 _).symm;unfold Z137_j20;refine Q.wrapOO fun Kb39 hKb39=>?_;refine Z137_l39_qe  Kb39 ?_ _ _ _ ⟨Nat.succ_pos _,by omega⟩;intro n39 s3_40 s41_41;refine Eq.trans ?_ (hKb39 _).symm;refine Q.wrapPO fun Kj22 hKj22=>?_;have hj22:∀(s3_23:(Sl Bs)),Z137_j22 a0 s22_10 y11_c2 x19 (Z137_l8 a0 a1 k_rec_23 n8) k_rec_23 s3_23=Kj22 s3_23:=by
     intro s3_23;refine Eq.trans ?_ (hKj22 _).symm;unfold Z137_j22;refine Q.wrapOO fun Kj15 hKj15=>?_;have hj15:∀(s3_16:(Sl Bs)) (y17_c2:(List Bs)),Z137_j15 s22_10 (Z137_l8 a0 a1 k_rec_23 n8) s3_16 y17_c2=Kj15 (s3_16,y17_c2):=by
      intro s3_16 y17_c2;refine Eq.trans ?_ (hKj15 _).symm;try dsimp only
      unfold Z137_j15;all_goals exact ih8 _ _ _ ⟨by omega,by omega⟩
     refine Q.mixO fun kj25 hkj25=>?_;have hj25:∀(s17_26:(Sl TSel)) (y27_c2:(List Bs)),Z137_j25 a0 s22_10 s3_23 (Z137_l8 a0 a1 k_rec_23 n8) k_rec_23 s17_26 y27_c2=Option.bind (kj25 s17_26 y27_c2) Kj15:=by
      intro s17_26 y27_c2;unfold Z137_j25;rw [hkj25];try dsimp only
      refine Q.bindO rfl fun x28=>?_;all_goals exact hj15 _ _
     refine Q.condO ?_ ?_
     ·refine Q.bindPO (Z9_eq _ _) fun x32 hx_x32=>?_;refine Q.condO ?_ ?_
      ·all_goals exact hj15 _ _
      all_goals exact hj25 _ _
     all_goals exact hj25 _ _
    all_goals exact hj22 _
   all_goals exact hj20 _
  rw [List.drop_of_length_le (by omega),Z137_q8];refine Q.condF (Q.ltF hlt) ?_;exact hend n8 s3_9 s22_10 y11_c2
def Z137_qn:Nat->TQuery->(Sl TSel)->(List Bs)->(Sl Bs)->Option ((Sl Bs)×(List Bs))
 | 0,_,_,_,_=>none
 | n+1,a0,a1,a2,a3=>Option.bind (Z137_q8 a0 (Z137_qn n) a1.l a3 a2) fun z8=>on ((z8.1,z8.2)) fun z2=>some (z2.1,z2.2)
theorem Z137_qall:∀n:Nat,Z137_n n=Z137_qn n:=by
 intro n;induction n with
 | zero=>exact(by funext a0 a1 a2 a3; first|rfl|(rw [Z137_n,Z137_qn]))
 | succ n ih =>
  funext a0 a1 a2 a3
  refine Eq.trans ?_ (Q.some_bind _);rw [Z137_n,Z137_qn];try rw [ih]
  refine Q.wrapOO fun Kb8 hKb8=>?_;refine Z137_l8_qe  Kb8 ?_ _ _ _ _ ⟨Nat.succ_pos _,by omega⟩;intro n8 s3_9 s22_10 y11_c2;refine Eq.trans ?_ (hKb8 _).symm;try dsimp only
  refine Q.wrapPO fun Kj2 hKj2=>?_;have hj2:∀(s3_3:(Sl Bs)) (y4_c2:(List Bs)),Z137_j2  s3_3 y4_c2=Kj2 (s3_3,y4_c2):=by
   intro s3_3 y4_c2;refine Eq.trans ?_ (hKj2 _).symm;try dsimp only
   unfold Z137_j2;all_goals rfl
  all_goals exact hj2 _ _
def Z137_q (a0:TQuery) (a1:(Sl TSel)) (a2:(List Bs)) (a3:(Sl Bs)):Option ((Sl Bs)×(List Bs)):=Z137_qn F0 a0 a1 a2 a3
theorem Z137_eq (a0:TQuery) (a1:(Sl TSel)) (a2:(List Bs)) (a3:(Sl Bs)):Z137 a0 a1 a2 a3=Z137_q a0 a1 a2 a3:=by
 unfold Z137 Z137_q; rw [(Z137_qall F0)]
def Z108_q6 (a1:Bs):List Bs->Nat->Unit ⊕ Int
 | [],s8_7=>Sum.inl ()
 | h6::r6,s8_7=>on (h6) fun x14=>bif ((a1==x14)) then(Sum.inr ((s8_7:Nat):Int)) else(Z108_q6 a1 (r6) (s8_7+1) )
theorem Z108_l6_qe {a0:(Sl Bs)}{a1:Bs}  (Kb6:(Unit ⊕ Int)->Option Int) (hend:∀(n6:Nat) (s8_7:Nat),Z108_j2   =Kb6 (Sum.inl ())) (hret:∀e:Int,some e=Kb6 (Sum.inr e)):∀(n6:Nat) (s8_7:Nat),(0<n6/\a0.l.length<s8_7+n6)->Z108_l6 a0 a1 n6 s8_7=Kb6 (Z108_q6 a1 (a0.l.drop s8_7) s8_7 ):=by
 intro n6;induction n6 with
 | zero=>intro s8_7 hn; exact absurd hn.1 (by omega)
 | succ n6 ih6 =>
  intro s8_7 hn;rw [Z108_l6];by_cases hlt:s8_7<a0.l.length
  ·obtain⟨h6,hh6⟩:∃x,a0.l[s8_7]?=some x:=⟨_,List.getElem?_eq_getElem hlt⟩;rw [Q.drop_of hh6,Z108_q6];refine Q.condT (Q.ltT hlt) ?_;refine Q.bindP hh6 fun x14 hx_x14=>?_;refine Q.condP ?_ ?_
   ·all_goals exact hret _
   all_goals exact ih6 _ ⟨by omega,by omega⟩
  rw [List.drop_of_length_le (by omega),Z108_q6];refine Q.condF (Q.ltF hlt) ?_;exact hend n6 s8_7
def Z108_q (a0:(Sl Bs)) (a1:Bs):Int:=on (Z108_q6 a1 a0.l 0 ) fun o6=>match o6 with|Sum.inl _=>(on (()) fun _=>(-1:Int))|Sum.inr e6=>(e6)
theorem Z108_eq (a0:(Sl Bs)) (a1:Bs):Z108 a0 a1=some (Z108_q a0 a1):=by
 unfold Z108 Z108_q;refine Q.wrapPP fun Kb6 hKb6=>?_;refine Z108_l6_qe  Kb6 ?_ ?_ _ _ ⟨Nat.succ_pos _,by omega⟩
 ·intro n6 s8_7;refine Eq.trans ?_ (hKb6 _).symm;try dsimp only
  refine Q.wrapPP fun Kj2 hKj2=>?_;have hj2:Z108_j2  =Kj2 ():=by
   refine Eq.trans ?_ (hKj2 _).symm;unfold Z108_j2;all_goals rfl
  all_goals exact hj2
 intro e6;refine Eq.trans ?_ (hKb6 _).symm;try dsimp only
 all_goals rfl
def Z103_q (a0:(Sl Bs)) (a1:Bs):Bool:=on (Z108_q a0 a1) fun x3=>(decide ((0:Int)<=x3))
theorem Z103_eq (a0:(Sl Bs)) (a1:Bs):Z103 a0 a1=some (Z103_q a0 a1):=by
 unfold Z103 Z103_q;refine Q.bindP (Z108_eq _ _) fun x3 hx_x3=>?_;all_goals rfl
def Z128_q (a0:TQuery) (a1:Int):Option (Sl Bs):=Z128 a0 a1
theorem Z128_eq (a0:TQuery) (a1:Int):Z128 a0 a1=Z128_q a0 a1:=rfl
def Z106_q6 (a1:(TVar->Bool)):List TVar->Nat->Unit ⊕ Int
 | [],s8_7=>Sum.inl ()
 | h6::r6,s8_7=>on (h6) fun x14=>on (a1 x14) fun x15=>bif x15 then(Sum.inr ((s8_7:Nat):Int)) else(Z106_q6 a1 (r6) (s8_7+1) )
theorem Z106_l6_qe {a0:(Sl TVar)}{a1:(TVar->Bool)}  (Kb6:(Unit ⊕ Int)->Option Int) (hend:∀(n6:Nat) (s8_7:Nat),Z106_j2   =Kb6 (Sum.inl ())) (hret:∀e:Int,some e=Kb6 (Sum.inr e)):∀(n6:Nat) (s8_7:Nat),(0<n6/\a0.l.length<s8_7+n6)->Z106_l6 a0 (fun y0=>some (a1 y0)) n6 s8_7=Kb6 (Z106_q6 a1 (a0.l.drop s8_7) s8_7 ):=by
 intro n6;induction n6 with
 | zero=>intro s8_7 hn; exact absurd hn.1 (by omega)
 | succ n6 ih6 =>
  intro s8_7 hn;rw [Z106_l6];by_cases hlt:s8_7<a0.l.length
  ·obtain⟨h6,hh6⟩:∃x,a0.l[s8_7]?=some x:=⟨_,List.getElem?_eq_getElem hlt⟩;rw [Q.drop_of hh6,Z106_q6];refine Q.condT (Q.ltT hlt) ?_;refine Q.bindP hh6 fun x14 hx_x14=>?_;refine Q.bindP rfl fun x15 hx_x15=>?_;refine Q.condP ?_ ?_
   ·all_goals exact hret _
   all_goals exact ih6 _ ⟨by omega,by omega⟩
  rw [List.drop_of_length_le (by omega),Z106_q6];refine Q.condF (Q.ltF hlt) ?_;exact hend n6 s8_7
def Z106_q (a0:(Sl TVar)) (a1:(TVar->Bool)):Int:=on (Z106_q6 a1 a0.l 0 ) fun o6=>match o6 with|Sum.inl _=>(on (()) fun _=>(-1:Int))|Sum.inr e6=>(e6)
theorem Z106_eq (a0:(Sl TVar)) (a1:(TVar->Bool)):Z106 a0 (fun y0=>some (a1 y0))=some (Z106_q a0 a1):=by
 unfold Z106 Z106_q;refine Q.wrapPP fun Kb6 hKb6=>?_;refine Z106_l6_qe  Kb6 ?_ ?_ _ _ ⟨Nat.succ_pos _,by omega⟩
 ·intro n6 s8_7;refine Eq.trans ?_ (hKb6 _).symm;try dsimp only
  refine Q.wrapPP fun Kj2 hKj2=>?_;have hj2:Z106_j2  =Kj2 ():=by
   refine Eq.trans ?_ (hKj2 _).symm;unfold Z106_j2;all_goals rfl
  all_goals exact hj2
 intro e6;refine Eq.trans ?_ (hKb6 _).symm;try dsimp only
 all_goals rfl
def Z101_q (a0:(Sl TVar)) (a1:(TVar->Bool)):Bool:=on (Z106_q a0 a1) fun x3=>(decide ((0:Int)<=x3))
theorem Z101_eq (a0:(Sl TVar)) (a1:(TVar->Bool)):Z101 a0 (fun y0=>some (a1 y0))=some (Z101_q a0 a1):=by
 unfold Z101 Z101_q;refine Q.bindP (Z106_eq _ _) fun x3 hx_x3=>?_;all_goals rfl
def Z131_q (a0:TVar) (a1:TVar):Bool:=((a0.FName==a1.FName))
theorem Z131_eq (a0:TVar) (a1:TVar):Z131 a0 a1=some (Z131_q a0 a1):=by
 unfold Z131 Z131_q;all_goals rfl
def Z129_q (a0:Vars_checker) (a1:Bool) (a2:Int) (a3:Bs):Option Vars_checker:=bif a1 then((appC 24 a0.Fout (⟨false,[(TFault.mk a2 a3)]⟩:Sl TFault)).bind fun x3=>some (Vars_checker.mk a0.Fd a0.Fvars x3)) else(some a0)
theorem Z129_eq (a0:Vars_checker) (a1:Bool) (a2:Int) (a3:Bs):Z129 a0 a1 a2 a3=Z129_q a0 a1 a2 a3:=by
 unfold Z129 Z129_q;refine Eq.trans ?_ (Q.some_bind _);refine Q.condO ?_ ?_
 ·refine Q.bindO rfl fun x3=>?_;all_goals rfl
 all_goals rfl
def Z92_q7 (a1:Bs):List TDef->Unit ⊕ ((TDef×Bool))
 | []=>Sum.inl ()
 | h7::r7=>on (h7) fun x15=>bif ((x15.FName==a1)) then(Sum.inr (x15,true)) else(Z92_q7 a1 (r7) )
theorem Z92_l7_qe {a0:TDoc}{a1:Bs}  (Kb7:(Unit ⊕ ((TDef×Bool)))->Option (TDef×Bool)) (hend:∀(n7:Nat) (s11_8:Nat) (y9_l0:TDef),Z92_j2   y9_l0=Kb7 (Sum.inl ())) (hret:∀e:(TDef×Bool),some e=Kb7 (Sum.inr e)):∀(n7:Nat) (s11_8:Nat) (y9_l0:TDef),(0<n7/\a0.FDefs.l.length<s11_8+n7)->Z92_l7 a0 a1 n7 s11_8 y9_l0=Kb7 (Z92_q7 a1 (a0.FDefs.l.drop s11_8) ):=by
 intro n7;induction n7 with
 | zero=>intro s11_8 y9_l0 hn; exact absurd hn.1 (by omega)
 | succ n7 ih7 =>
  intro s11_8 y9_l0 hn;rw [Z92_l7];by_cases hlt:s11_8<a0.FDefs.l.length
  ·obtain⟨h7,hh7⟩:∃x,a0.FDefs.l[s11_8]?=some x:=⟨_,List.getElem?_eq_getElem hlt⟩;rw [Q.drop_of hh7,Z92_q7];refine Q.condT (Q.ltT hlt) ?_;refine Q.bindP hh7 fun x15 hx_x15=>?_;refine Q.condP ?_ ?_
   ·all_goals exact hret _
   all_goals exact ih7 _ _ ⟨by omega,by omega⟩
  rw [List.drop_of_length_le (by omega),Z92_q7];refine Q.condF (Q.ltF hlt) ?_;exact hend n7 s11_8 y9_l0
def Z92_q (a0:TDoc) (a1:Bs):(TDef×Bool):=on (Z92_q7 a1 a0.FDefs.l ) fun o7=>match o7 with|Sum.inl _=>(on (()) fun _=>((TDef.mk (0:Int) ([]:Bs) (Sl.nil:Sl Bs) (Sl.nil:Sl TDir) (Sl.nil:Sl TField) (Sl.nil:Sl TMember) (Sl.nil:Sl TInput)),false))|Sum.inr e7=>(e7)
theorem Z92_eq (a0:TDoc) (a1:Bs):Z92 a0 a1=some (Z92_q a0 a1):=by
 unfold Z92 Z92_q;refine Q.wrapPP fun Kb7 hKb7=>?_;refine Z92_l7_qe  Kb7 ?_ ?_ _ _ _ ⟨Nat.succ_pos _,by omega⟩
 ·intro n7 s11_8 y9_l0;refine Eq.trans ?_ (hKb7 _).symm;try dsimp only
  refine Q.wrapPP fun Kj2 hKj2=>?_;have hj2:∀(y3_l0:TDef),Z92_j2  y3_l0=Kj2 ():=by
   intro y3_l0;refine Eq.trans ?_ (hKj2 _).symm;unfold Z92_j2;all_goals rfl
  all_goals exact hj2 _
 intro e7;refine Eq.trans ?_ (hKb7 _).symm;try dsimp only
 all_goals rfl
def Z97_q (a0:Bs):Bool:=(((((a0==([73,110,116]:Bs)))||((a0==([83,116,114,105,110,103]:Bs))))||((a0==([66,111,111,108,101,97,110]:Bs))))||((a0==([73,68]:Bs))))
theorem Z97_eq (a0:Bs):Z97 a0=some (Z97_q a0):=by
 unfold Z97 Z97_q;all_goals rfl
def Z98_q (a0:TDoc) (a1:Bs):Int:=on (Z92_q a0 a1) fun x3=>x3.1.FKind
theorem Z98_eq (a0:TDoc) (a1:Bs):Z98 a0 a1=some (Z98_q a0 a1):=by
 unfold Z98 Z98_q;refine Q.bindP (Z92_eq _ _) fun x3 hx_x3=>?_;all_goals rfl
def Z95_q (a0:TDoc) (a1:Bs):Bool:=on (Z97_q a1) fun x3=>on (bif !x3 then Z98_q a0 a1 else(0:Int)) fun x4=>(x3||(decide (x4=(4:Int))))
theorem Z95_eq (a0:TDoc) (a1:Bs):Z95 a0 a1=some (Z95_q a0 a1):=by
 unfold Z95 Z95_q;refine Q.bindP (Z97_eq _) fun x3 hx_x3=>?_;refine Q.guardP (Z98_eq _ _) fun x4 hx_x4=>?_;all_goals rfl
def Z94_q (a0:TDoc) (a1:Bs):Bool:=on (Z95_q a0 a1) fun x3=>on (bif !x3 then Z98_q a0 a1 else(0:Int)) fun x4=>(x3||(decide (x4=(5:Int))))
theorem Z94_eq (a0:TDoc) (a1:Bs):Z94 a0 a1=some (Z94_q a0 a1):=by
 unfold Z94 Z94_q;refine Q.bindP (Z95_eq _ _) fun x3 hx_x3=>?_;refine Q.guardP (Z98_eq _ _) fun x4 hx_x4=>?_;all_goals rfl
def Z100_q (a0:(Sl Bs)):Option (Sl Bs):=bif a0.nl then(some (Sl.nil:Sl Bs)) else((appC 16 (⟨false,[]⟩:Sl Bs) a0).bind fun x7=>some x7)
theorem Z100_eq (a0:(Sl Bs)):Z100 a0=Z100_q a0:=by
 unfold Z100 Z100_q;refine Eq.trans ?_ (Q.some_bind _);refine Q.condO ?_ ?_
 ·all_goals rfl
 refine Q.bindO rfl fun x7=>?_;all_goals rfl
def Z125_q8 (k_rec_113:TValue->Option TValue):List TValue->(Sl TValue)->Option ((Sl TValue))
 | [],s3_9=>some s3_9
 | h8::r8,s3_9=>on (h8) fun x16=>(k_rec_113 x16).bind fun x17=>(appC 80 s3_9 (⟨false,[x17]⟩:Sl TValue)).bind fun x18=>Z125_q8 k_rec_113 (r8) x18
theorem Z125_l8_qe {a0:(Sl TValue)}{k_rec_113:TValue->Option TValue}  (Kb8:((Sl TValue))->Option (Sl TValue)) (hend:∀(n8:Nat) (s3_9:(Sl TValue)) (s8_10:Nat),Z125_j3   s3_9=Kb8 s3_9):∀(n8:Nat) (s3_9:(Sl TValue)) (s8_10:Nat),(0<n8/\a0.l.length<s8_10+n8)->Z125_l8 a0 k_rec_113 n8 s3_9 s8_10=Option.bind (Z125_q8 k_rec_113 (a0.l.drop s8_10) s3_9) Kb8:=by
 intro n8;induction n8 with
 | zero=>intro s3_9 s8_10 hn; exact absurd hn.1 (by omega)
 | succ n8 ih8 =>
  intro s3_9 s8_10 hn;rw [Z125_l8];by_cases hlt:s8_10<a0.l.length
  ·obtain⟨h8,hh8⟩:∃x,a0.l[s8_10]?=some x:=⟨_,List.getElem?_eq_getElem hlt⟩;rw [Q.drop_of hh8,Z125_q8];refine Q.condT (Q.ltT hlt) ?_;refine Q.bindPO hh8 fun x16 hx_x16=>?_;refine Q.bindO rfl fun x17=>?_;refine Q.bindO rfl fun x18=>?_;all_goals exact ih8 _ _ ⟨by omega,by omega⟩
  rw [List.drop_of_length_le (by omega),Z125_q8];refine Q.condF (Q.ltF hlt) ?_;exact hend n8 s3_9 s8_10
mutual
def value_Copy_qn:Nat->TValue->Option TValue
 | 0,_=>none
 | n+1,a0=>((Z125_qn n) a0.FItems).bind fun x3=>(Z100_q a0.FKeys).bind fun x5=>some (TValue.mk a0.FKind a0.FInt a0.FText x3.nl x3.l x5)
def Z125_qn:Nat->(Sl TValue)->Option (Sl TValue)
 | 0,_=>none
 | n+1,a0=>Option.bind (Z125_q8 (value_Copy_qn n) a0.l (Sl.nil:Sl TValue)) fun s3_9=>on (s3_9) fun s3_4=>some s3_4
end
theorem value_Copy_qall:∀n:Nat,value_Copy_n n=value_Copy_qn n/\Z125_n n=Z125_qn n:=by
 intro n;induction n with
 | zero=>exact⟨(by funext a0; first|rfl|(rw [value_Copy_n,value_Copy_qn])),(by funext a0; first|rfl|(rw [Z125_n,Z125_qn]))⟩
 | succ n ih =>
  refine⟨?_, ?_⟩
  ·funext a0
   refine Eq.trans ?_ (Q.some_bind _);rw [value_Copy_n,value_Copy_qn];try rw [ih.1]
   try rw [ih.2]
   refine Q.bindO rfl fun x3=>?_;refine Q.bindO (Z100_eq _) fun x5=>?_;all_goals rfl
  funext a0
  refine Eq.trans ?_ (Q.some_bind _);rw [Z125_n,Z125_qn];try rw [ih.1]
  try rw [ih.2]
  refine Q.wrapOO fun Kb8 hKb8=>?_;refine Z125_l8_qe  Kb8 ?_ _ _ _ ⟨Nat.succ_pos _,by omega⟩;intro n8 s3_9 s8_10;refine Eq.trans ?_ (hKb8 _).symm;refine Q.wrapPO fun Kj3 hKj3=>?_;have hj3:∀(s3_4:(Sl TValue)),Z125_j3  s3_4=Kj3 s3_4:=by
   intro s3_4;refine Eq.trans ?_ (hKj3 _).symm;unfold Z125_j3;all_goals rfl
  all_goals exact hj3 _
def value_Copy_q (a0:TValue):Option TValue:=value_Copy_qn F0 a0
theorem value_Copy_eq (a0:TValue):value_Copy a0=value_Copy_q a0:=by
 unfold value_Copy value_Copy_q; rw [(value_Copy_qall F0).1]
def Z123_q (a0:TValue) (a1:Bs):Option (TValue×Bool):=on (Z108_q a0.FKeys a1) fun x3=>bif (((!decide (a0.FKind=(6:Int)))||(decide (x3<(0:Int))))||(decide (((a0.FItems.l.length:Nat):Int)<=x3))) then(some ((TValue.mk (0:Int) (0:Int) ([]:Bs) true ([]) (Sl.nil:Sl Bs)),false)) else((idxC a0.FItems.l x3).bind fun x9=>(value_Copy_q x9).bind fun x10=>some (x10,true))
theorem Z123_eq (a0:TValue) (a1:Bs):Z123 a0 a1=Z123_q a0 a1:=by
 unfold Z123 Z123_q;refine Eq.trans ?_ (Q.some_bind _);refine Q.bindPO (Z108_eq _ _) fun x3 hx_x3=>?_;refine Q.condO ?_ ?_
 ·all_goals rfl
 refine Q.bindO rfl fun x9=>?_;refine Q.bindO (value_Copy_eq _) fun x10=>?_;all_goals rfl
def Z4_q (a0:Coerce_coercer) (a1:TValue):Option Bool:=bif ((!decide (a1.FKind=(7:Int)))||(!a0.Fliteral)) then(some false) else((Z123_q a0.Fvars a1.FText).bind fun x7=>some (!x7.2))
theorem Z4_eq (a0:Coerce_coercer) (a1:TValue):Z4 a0 a1=Z4_q a0 a1:=by
 unfold Z4 Z4_q;refine Eq.trans ?_ (Q.some_bind _);refine Q.condO ?_ ?_
 ·all_goals rfl
 refine Q.bindO (Z123_eq _ _) fun x7=>?_;all_goals rfl
def Z8_q (a0:TValue) (a1:Int):Option (TValue×Int):=bif (!decide (a1=(0:Int))) then(some ((TValue.mk (0:Int) (0:Int) ([]:Bs) true ([]) (Sl.nil:Sl Bs)),a1)) else((value_Copy_q a0).bind fun x7=>some (x7,(0:Int)))
theorem Z8_eq (a0:TValue) (a1:Int):Z8 a0 a1=Z8_q a0 a1:=by
 unfold Z8 Z8_q;refine Eq.trans ?_ (Q.some_bind _);refine Q.condO ?_ ?_
 ·all_goals rfl
 refine Q.bindO (value_Copy_eq _) fun x7=>?_;all_goals rfl
def Z1_q (a0:Coerce_coercer) (a1:Int):Option (Int×Coerce_coercer):=bif (decide ((24:Int)<a1)) then(some ((5:Int),a0)) else((addC a0.Fnodes (1:Int)).bind fun x7=>bif (decide ((4096:Int)<x7)) then(some ((4:Int),(Coerce_coercer.mk a0.Fd a0.Fvars a0.Fliteral x7))) else(some ((0:Int),(Coerce_coercer.mk a0.Fd a0.Fvars a0.Fliteral x7))))
theorem Z1_eq (a0:Coerce_coercer) (a1:Int):Z1 a0 a1=Z1_q a0 a1:=by
 unfold Z1 Z1_q;refine Eq.trans ?_ (Q.some_bind _);refine Q.condO ?_ ?_
 ·all_goals rfl
 refine Q.bindO rfl fun x7=>?_;refine Q.condO ?_ ?_
 ·all_goals rfl
 all_goals rfl
def Z7_q13 (a2:Int) (k_rec_114:Coerce_coercer->TValue->Int->Option (Int×Coerce_coercer)):List TValue->Coerce_coercer->Option (Coerce_coercer ⊕ ((Int×Coerce_coercer)))
 | [],y15_c0=>some (Sum.inl y15_c0)
 | h13::r13,y15_c0=>on (h13) fun x21=>(addC a2 (1:Int)).bind fun x23=>(k_rec_114 y15_c0 x21 x23).bind fun x24=>bif (!decide (x24.1=(0:Int))) then(some (Sum.inr (x24.1,x24.2))) else(Z7_q13 a2 k_rec_114 (r13) x24.2)
theorem Z7_l13_qe {a1:TValue}{a2:Int}{k_rec_114:Coerce_coercer->TValue->Int->Option (Int×Coerce_coercer)}  (Kb13:(Coerce_coercer ⊕ ((Int×Coerce_coercer)))->Option (Int×Coerce_coercer)) (hend:∀(n13:Nat) (s20_14:Nat) (y15_c0:Coerce_coercer),Z7_j8   y15_c0=Kb13 (Sum.inl y15_c0)) (hret:∀e:(Int×Coerce_coercer),some e=Kb13 (Sum.inr e)):∀(n13:Nat) (s20_14:Nat) (y15_c0:Coerce_coercer),(0<n13/\a1.FItems.l.length<s20_14+n13)->Z7_l13 a1 a2 k_rec_114 n13 s20_14 y15_c0=Option.bind (Z7_q13 a2 k_rec_114 (a1.FItems.l.drop s20_14) y15_c0) Kb13:=by
 intro n13;induction n13 with
 | zero=>intro s20_14 y15_c0 hn; exact absurd hn.1 (by omega)
 | succ n13 ih13 =>
  intro s20_14 y15_c0 hn;rw [Z7_l13];by_cases hlt:s20_14<a1.FItems.l.length
  ·obtain⟨h13,hh13⟩:∃x,a1.FItems.l[s20_14]?=some x:=⟨_,List.getElem?_eq_getElem hlt⟩;rw [Q.drop_of hh13,Z7_q13];refine Q.condT (Q.ltT hlt) ?_;refine Q.bindPO hh13 fun x21 hx_x21=>?_;refine Q.bindO rfl fun x23=>?_;refine Q.bindO rfl fun x24=>?_;refine Q.condO ?_ ?_
   ·all_goals exact hret _
   all_goals exact ih13 _ _ ⟨by omega,by omega⟩
  rw [List.drop_of_length_le (by omega),Z7_q13];refine Q.condF (Q.ltF hlt) ?_;exact hend n13 s20_14 y15_c0
def Z7_qn:Nat->Coerce_coercer->TValue->Int->Option (Int×Coerce_coercer)
 | 0,_,_,_=>none
 | n+1,a0,a1,a2=>(Z1_q a0 a2).bind fun x4=>bif (!decide (x4.1=(0:Int))) then(some (x4.1,x4.2)) else(Option.bind (Z7_q13 a2 (Z7_qn n) a1.FItems.l x4.2) fun o13=>match o13 with|Sum.inl y15_c0=>(on (y15_c0) fun y9_c0=>some ((0:Int),y9_c0))|Sum.inr e13=>(some e13))
theorem Z7_qall:∀n:Nat,Z7_n n=Z7_qn n:=by
 intro n;induction n with
 | zero=>exact(by funext a0 a1 a2; first|rfl|(rw [Z7_n,Z7_qn]))
 | succ n ih =>
  funext a0 a1 a2
  refine Eq.trans ?_ (Q.some_bind _);rw [Z7_n,Z7_qn];try rw [ih]
  refine Q.bindO (Z1_eq _ _) fun x4=>?_;refine Q.condO ?_ ?_
  ·all_goals rfl
  refine Q.wrapOO fun Kb13 hKb13=>?_;refine Z7_l13_qe  Kb13 ?_ ?_ _ _ _ ⟨Nat.succ_pos _,by omega⟩
  ·intro n13 s20_14 y15_c0;refine Eq.trans ?_ (hKb13 _).symm;try dsimp only
   refine Q.wrapPO fun Kj8 hKj8=>?_;have hj8:∀(y9_c0:Coerce_coercer),Z7_j8  y9_c0=Kj8 y9_c0:=by
    intro y9_c0;refine Eq.trans ?_ (hKj8 _).symm;unfold Z7_j8;all_goals rfl
   all_goals exact hj8 _
  intro e13;refine Eq.trans ?_ (hKb13 _).symm;try dsimp only
  all_goals rfl
def Z7_q (a0:Coerce_coercer) (a1:TValue) (a2:Int):Option (Int×Coerce_coercer):=Z7_qn F0 a0 a1 a2
theorem Z7_eq (a0:Coerce_coercer) (a1:TValue) (a2:Int):Z7 a0 a1 a2=Z7_q a0 a1 a2:=by
 unfold Z7 Z7_q; rw [(Z7_qall F0)]
def Z114_q (a0:TRef):Bool:=on (bif (decide ((0:Int)<((a0.FWraps.l.length:Nat):Int))) then((a0.FWraps.l)[0]?.getD (0:Int)) else(0:Int)) fun x4=>((decide ((0:Int)<((a0.FWraps.l.length:Nat):Int)))&&(decide (x4=(1:Int))))
theorem Z114_eq (a0:TRef):Z114 a0=some (Z114_q a0):=by
 unfold Z114 Z114_q;refine Q.guardT (fun hc=>Q.getD_some (by simp at hc; omega)) fun x4 hx_x4=>?_;all_goals rfl
def Z99_q (a0:(Sl Int)):Option (Sl Int):=bif a0.nl then(some (Sl.nil:Sl Int)) else((appC 8 (⟨false,[]⟩:Sl Int) a0).bind fun x7=>some x7)
theorem Z99_eq (a0:(Sl Int)):Z99 a0=Z99_q a0:=by
 unfold Z99 Z99_q;refine Eq.trans ?_ (Q.some_bind _);refine Q.condO ?_ ?_
 ·all_goals rfl
 refine Q.bindO rfl fun x7=>?_;all_goals rfl
def Z117_q (a0:TRef):Option TRef:=on (Z114_q a0) fun x8=>Option.bind (bif x8 then((partC a0.FWraps (some (1:Int)) none).bind fun x10=>some x10) else(some a0.FWraps)) fun s3_4=>(Z99_q s3_4).bind fun x6=>some (TRef.mk a0.FName x6)
theorem Z117_eq (a0:TRef):Z117 a0=Z117_q a0:=by
 unfold Z117 Z117_q;refine Eq.trans ?_ (Q.some_bind _);refine Q.bindPO (Z114_eq _) fun x8 hx_x8=>?_;refine Q.wrapOO fun Kj3 hKj3=>?_;have hj3:∀(s3_4:(Sl Int)),Z117_j3 a0 s3_4=Kj3 s3_4:=by
  intro s3_4;refine Eq.trans ?_ (hKj3 _).symm;unfold Z117_j3;refine Q.bindO (Z99_eq _) fun x6=>?_;all_goals rfl
 refine Q.condO ?_ ?_
 ·refine Q.bindO rfl fun x10=>?_;all_goals exact hj3 _
 all_goals exact hj3 _
def Z113_q (a0:TRef):Option Bool:=(Z117_q a0).bind fun x3=>on (bif (decide ((0:Int)<((x3.FWraps.l.length:Nat):Int))) then((x3.FWraps.l)[0]?.getD (0:Int)) else(0:Int)) fun x6=>some ((decide ((0:Int)<((x3.FWraps.l.length:Nat):Int)))&&(decide (x6=(2:Int))))
theorem Z113_eq (a0:TRef):Z113 a0=Z113_q a0:=by
 unfold Z113 Z113_q;refine Eq.trans ?_ (Q.some_bind _);refine Q.bindO (Z117_eq _) fun x3=>?_;refine Q.guardTO (fun hc=>Q.getD_some (by simp at hc; omega)) fun x6 hx_x6=>?_;all_goals rfl
def Z112_q (a0:TRef):Option (TRef×Bool):=(Z113_q a0).bind fun x4=>bif (!x4) then(some ((TRef.mk ([]:Bs) (Sl.nil:Sl Int)),false)) else((Z117_q a0).bind fun x8=>(partC x8.FWraps (some (1:Int)) none).bind fun x10=>some ((TRef.mk x8.FName x10),true))
theorem Z112_eq (a0:TRef):Z112 a0=Z112_q a0:=by
 unfold Z112 Z112_q;refine Eq.trans ?_ (Q.some_bind _);refine Q.bindO (Z113_eq _) fun x4=>?_;refine Q.condO ?_ ?_
 ·all_goals rfl
 refine Q.bindO (Z117_eq _) fun x8=>?_;refine Q.bindO rfl fun x10=>?_;all_goals rfl
def Z93_q7 (a1:Bs):List TInput->Unit ⊕ ((TInput×Bool))
 | []=>Sum.inl ()
 | h7::r7=>on (h7) fun x15=>bif ((x15.FName==a1)) then(Sum.inr (x15,true)) else(Z93_q7 a1 (r7) )
theorem Z93_l7_qe {a0:(Sl TInput)}{a1:Bs}  (Kb7:(Unit ⊕ ((TInput×Bool)))->Option (TInput×Bool)) (hend:∀(n7:Nat) (s10_8:Nat) (y9_l0:TInput),Z93_j2   y9_l0=Kb7 (Sum.inl ())) (hret:∀e:(TInput×Bool),some e=Kb7 (Sum.inr e)):∀(n7:Nat) (s10_8:Nat) (y9_l0:TInput),(0<n7/\a0.l.length<s10_8+n7)->Z93_l7 a0 a1 n7 s10_8 y9_l0=Kb7 (Z93_q7 a1 (a0.l.drop s10_8) ):=by
 intro n7;induction n7 with
 | zero=>intro s10_8 y9_l0 hn; exact absurd hn.1 (by omega)
 | succ n7 ih7 =>
  intro s10_8 y9_l0 hn;rw [Z93_l7];by_cases hlt:s10_8<a0.l.length
  ·obtain⟨h7,hh7⟩:∃x,a0.l[s10_8]?=some x:=⟨_,List.getElem?_eq_getElem hlt⟩;rw [Q.drop_of hh7,Z93_q7];refine Q.condT (Q.ltT hlt) ?_;refine Q.bindP hh7 fun x15 hx_x15=>?_;refine Q.condP ?_ ?_
   ·all_goals exact hret _
   all_goals exact ih7 _ _ ⟨by omega,by omega⟩
  rw [List.drop_of_length_le (by omega),Z93_q7];refine Q.condF (Q.ltF hlt) ?_;exact hend n7 s10_8 y9_l0
def Z93_q (a0:(Sl TInput)) (a1:Bs):(TInput×Bool):=on (Z93_q7 a1 a0.l ) fun o7=>match o7 with|Sum.inl _=>(on (()) fun _=>((TInput.mk ([]:Bs) TRef.zero false TValue.zero (Sl.nil:Sl TDir)),false))|Sum.inr e7=>(e7)
theorem Z93_eq (a0:(Sl TInput)) (a1:Bs):Z93 a0 a1=some (Z93_q a0 a1):=by
 unfold Z93 Z93_q;refine Q.wrapPP fun Kb7 hKb7=>?_;refine Z93_l7_qe  Kb7 ?_ ?_ _ _ _ ⟨Nat.succ_pos _,by omega⟩
 ·intro n7 s10_8 y9_l0;refine Eq.trans ?_ (hKb7 _).symm;try dsimp only
  refine Q.wrapPP fun Kj2 hKj2=>?_;have hj2:∀(y3_l0:TInput),Z93_j2  y3_l0=Kj2 ():=by
   intro y3_l0;refine Eq.trans ?_ (hKj2 _).symm;unfold Z93_j2;all_goals rfl
  all_goals exact hj2 _
 intro e7;refine Eq.trans ?_ (hKb7 _).symm;try dsimp only
 all_goals rfl
def Z6_q (a0:TValue) (a1:Bool) (a2:Coerce_coercer):Coerce_coercer:=(Coerce_coercer.mk a2.Fd a0 a1 a2.Fnodes)
theorem Z6_eq (a0:TValue) (a1:Bool) (a2:Coerce_coercer):Z6 a0 a1 a2=some (Z6_q a0 a1 a2):=by
 unfold Z6 Z6_q;all_goals rfl
def Z124_q (a0:Bs):TValue:=(TValue.mk (3:Int) (0:Int) a0 true ([]) (Sl.nil:Sl Bs))
theorem Z124_eq (a0:Bs):Z124 a0=some (Z124_q a0):=by
 unfold Z124 Z124_q;all_goals rfl
def Z110_q (a0:Int):Option Bs:=(Z109_q a0).bind fun x3=>some x3
theorem Z110_eq (a0:Int):Z110 a0=Z110_q a0:=by
 unfold Z110 Z110_q;refine Eq.trans ?_ (Q.some_bind _);refine Q.bindO (Z109_eq _) fun x3=>?_;all_goals rfl
def Z107_q6 (a1:(TMember->Bool)):List TMember->Nat->Unit ⊕ Int
 | [],s8_7=>Sum.inl ()
 | h6::r6,s8_7=>on (h6) fun x14=>on (a1 x14) fun x15=>bif x15 then(Sum.inr ((s8_7:Nat):Int)) else(Z107_q6 a1 (r6) (s8_7+1) )
theorem Z107_l6_qe {a0:(Sl TMember)}{a1:(TMember->Bool)}  (Kb6:(Unit ⊕ Int)->Option Int) (hend:∀(n6:Nat) (s8_7:Nat),Z107_j2   =Kb6 (Sum.inl ())) (hret:∀e:Int,some e=Kb6 (Sum.inr e)):∀(n6:Nat) (s8_7:Nat),(0<n6/\a0.l.length<s8_7+n6)->Z107_l6 a0 (fun y0=>some (a1 y0)) n6 s8_7=Kb6 (Z107_q6 a1 (a0.l.drop s8_7) s8_7 ):=by
 intro n6;induction n6 with
 | zero=>intro s8_7 hn; exact absurd hn.1 (by omega)
 | succ n6 ih6 =>
  intro s8_7 hn;rw [Z107_l6];by_cases hlt:s8_7<a0.l.length
  ·obtain⟨h6,hh6⟩:∃x,a0.l[s8_7]?=some x:=⟨_,List.getElem?_eq_getElem hlt⟩;rw [Q.drop_of hh6,Z107_q6];refine Q.condT (Q.ltT hlt) ?_;refine Q.bindP hh6 fun x14 hx_x14=>?_;refine Q.bindP rfl fun x15 hx_x15=>?_;refine Q.condP ?_ ?_
   ·all_goals exact hret _
   all_goals exact ih6 _ ⟨by omega,by omega⟩
  rw [List.drop_of_length_le (by omega),Z107_q6];refine Q.condF (Q.ltF hlt) ?_;exact hend n6 s8_7
def Z107_q (a0:(Sl TMember)) (a1:(TMember->Bool)):Int:=on (Z107_q6 a1 a0.l 0 ) fun o6=>match o6 with|Sum.inl _=>(on (()) fun _=>(-1:Int))|Sum.inr e6=>(e6)
theorem Z107_eq (a0:(Sl TMember)) (a1:(TMember->Bool)):Z107 a0 (fun y0=>some (a1 y0))=some (Z107_q a0 a1):=by
 unfold Z107 Z107_q;refine Q.wrapPP fun Kb6 hKb6=>?_;refine Z107_l6_qe  Kb6 ?_ ?_ _ _ ⟨Nat.succ_pos _,by omega⟩
 ·intro n6 s8_7;refine Eq.trans ?_ (hKb6 _).symm;try dsimp only
  refine Q.wrapPP fun Kj2 hKj2=>?_;have hj2:Z107_j2  =Kj2 ():=by
   refine Eq.trans ?_ (hKj2 _).symm;unfold Z107_j2;all_goals rfl
  all_goals exact hj2
 intro e6;refine Eq.trans ?_ (hKb6 _).symm;try dsimp only
 all_goals rfl
def Z102_q (a0:(Sl TMember)) (a1:(TMember->Bool)):Bool:=on (Z107_q a0 a1) fun x3=>(decide ((0:Int)<=x3))
theorem Z102_eq (a0:(Sl TMember)) (a1:(TMember->Bool)):Z102 a0 (fun y0=>some (a1 y0))=some (Z102_q a0 a1):=by
 unfold Z102 Z102_q;refine Q.bindP (Z107_eq _ _) fun x3 hx_x3=>?_;all_goals rfl
def Z3_q (a0:TMember) (a1:TValue):Bool:=((a0.FName==a1.FText))
theorem Z3_eq (a0:TMember) (a1:TValue):Z3 a0 a1=some (Z3_q a0 a1):=by
 unfold Z3 Z3_q;all_goals rfl
def Z2_q (a0:Coerce_coercer) (a1:Bs) (a2:TValue):Option (TValue×Int):=on (fun(s8_4:Bool) (y5_l0:TValue)=>bif (!s8_4) then(some ((TValue.mk (0:Int) (0:Int) ([]:Bs) true ([]) (Sl.nil:Sl Bs)),(23:Int))) else(some (y5_l0,(0:Int)))) fun kj3=>bif ((a1==([73,110,116]:Bs))) then(kj3 (((decide (a2.FKind=(2:Int)))&&(decide ((-2147483648:Int)<=a2.FInt)))&&(decide (a2.FInt<(2147483648:Int)))) a2) else(bif ((a1==([83,116,114,105,110,103]:Bs))) then(kj3 (decide (a2.FKind=(3:Int))) a2) else(bif ((a1==([66,111,111,108,101,97,110]:Bs))) then(kj3 (decide (a2.FKind=(1:Int))) a2) else(bif ((a1==([73,68]:Bs))) then(Option.bind (bif (decide (a2.FKind=(2:Int))) then((Z110_q a2.FInt).bind fun x24=>on (Z124_q x24) fun x25=>some x25) else(some a2)) fun y21_l0=>kj3 (decide (y21_l0.FKind=(3:Int))) y21_l0) else(on (bif ((decide (a2.FKind=(3:Int)))&&(!a0.Fliteral)) then((TValue.mk (4:Int) a2.FInt a2.FText a2.FItems.nl a2.FItems.l a2.FKeys)) else(a2)) fun y27_l0=>on (Z92_q a0.Fd a1) fun x29=>on (bif (decide (y27_l0.FKind=(4:Int))) then Z102_q x29.1.FMembers (fun y0=>Z3_q y0 y27_l0) else false) fun x30=>bif (!((decide (y27_l0.FKind=(4:Int)))&&x30)) then(some ((TValue.mk (0:Int) (0:Int) ([]:Bs) true ([]) (Sl.nil:Sl Bs)),(23:Int))) else(some (y27_l0,(0:Int)))))))
theorem Z2_eq (a0:Coerce_coercer) (a1:Bs) (a2:TValue):Z2 a0 a1 a2=Z2_q a0 a1 a2:=by
 unfold Z2 Z2_q;refine Eq.trans ?_ (Q.some_bind _);refine Q.mixO fun kj3 hkj3=>?_;have hj3:∀(s8_4:Bool) (y5_l0:TValue),Z2_j3  s8_4 y5_l0=Option.bind (kj3 s8_4 y5_l0) some:=by
  intro s8_4 y5_l0;unfold Z2_j3;rw [hkj3];try dsimp only
  refine Q.condO ?_ ?_
  ·all_goals rfl
  all_goals rfl
 refine Q.condO ?_ ?_
 ·all_goals exact hj3 _ _
 refine Q.condO ?_ ?_
 ·all_goals exact hj3 _ _
 refine Q.condO ?_ ?_
 ·all_goals exact hj3 _ _
 refine Q.condO ?_ ?_
 ·refine Q.wrapOO fun Kj20 hKj20=>?_;have hj20:∀(y21_l0:TValue),Z2_j20  y21_l0=Kj20 y21_l0:=by
   intro y21_l0;refine Eq.trans ?_ (hKj20 _).symm;unfold Z2_j20;all_goals exact hj3 _ _
  refine Q.condO ?_ ?_
  ·refine Q.bindO (Z110_eq _) fun x24=>?_;refine Q.bindPO (Z124_eq _) fun x25 hx_x25=>?_;all_goals exact hj20 _
  all_goals exact hj20 _
 refine Q.wrapPO fun Kj26 hKj26=>?_;have hj26:∀(y27_l0:TValue),Z2_j26 a0 a1 y27_l0=Kj26 y27_l0:=by
  intro y27_l0;refine Eq.trans ?_ (hKj26 _).symm;unfold Z2_j26;refine Q.bindPO (Z92_eq _ _) fun x29 hx_x29=>?_;refine Q.guardPO (by simp only [Z3_eq,Z102_eq]) fun x30 hx_x30=>?_;refine Q.condO ?_ ?_
  ·all_goals rfl
  all_goals rfl
 refine Q.condP ?_ ?_
 ·all_goals exact hj26 _
 all_goals exact hj26 _
end Go.Proofs
