import Derived.Test.YtfmbgiahleepfadGreatDoorV7
set_option maxRecDepth 100000
set_option maxHeartbeats 2000000
set_option linter.unusedVariables false
set_option linter.unusedSimpArgs false
namespace Go.Proofs
open Go Go.Ab
def Z135_q6 (a1:(Z8->Bool)):List Z8->Nat->Unit ⊕ Int
 | [],s8_7=>Sum.inl ()
 | h6::r6,s8_7=>on (h6) fun x14=>on (a1 x14) fun x15=>bif x15 then(Sum.inr ((s8_7:Nat):Int)) else(Z135_q6 a1 (r6) (s8_7+1) )
theorem Z135_l6_qe {a0:(Sl Z8)}{a1:(Z8->Bool)}  (Kb6:(Unit ⊕ Int)->Option Int) (hend:∀(n6:Nat) (s8_7:Nat),Z135_j2   =Kb6 (Sum.inl ())) (hret:∀e:Int,some e=Kb6 (Sum.inr e)):∀(n6:Nat) (s8_7:Nat),(0<n6/\a0.l.length<s8_7+n6)->Z135_l6 a0 (fun y0=>some (a1 y0)) n6 s8_7=Kb6 (Z135_q6 a1 (a0.l.drop s8_7) s8_7 ):=by
 intro n6;induction n6 with
 | zero=>intro s8_7 hn; exact absurd hn.1 (by omega)
 | succ n6 ih6 =>
  intro s8_7 hn;rw [Z135_l6];by_cases hlt:s8_7<a0.l.length
  ·obtain⟨h6,hh6⟩:=Qa hlt;rw [Q.drop_of hh6,Z135_q6];refine QT hlt ?_;refine Q.bindP hh6 fun x14 hx_x14=>?_;refine Q.bindP rfl fun x15 hx_x15=>?_;refine Q.condP ?_ ?_
   ·all_goals exact hret _
   all_goals exact ih6 _ ⟨by omega,by omega⟩
  rw [dL (by omega),Z135_q6];refine QF hlt ?_;exact hend n6 s8_7
def Z135_q (a0:(Sl Z8)) (a1:(Z8->Bool)):Int:=on (Z135_q6 a1 a0.l 0 ) fun o6=>match o6 with|Sum.inl _=>(on (()) fun _=>(-1:Int))|Sum.inr e6=>(e6)
theorem Z135_eq (a0:(Sl Z8)) (a1:(Z8->Bool)):Z135 a0 (fun y0=>some (a1 y0))=some (Z135_q a0 a1):=by
 unfold Z135 Z135_q;refine Q.wrapPP fun Kb6 hKb6=>?_;refine Z135_l6_qe  Kb6 ?_ ?_ _ _ ⟨Nat.succ_pos _,by omega⟩
 ·intro n6 s8_7;refine Qe (hKb6 _) ?_;try dsimp only
  refine Q.wrapPP fun Kj2 hKj2=>?_;have hj2:Z135_j2  =Kj2 ():=by
   refine Qe (hKj2 _) ?_;unfold Z135_j2;all_goals rfl
  all_goals exact hj2
 intro e6;refine Qe (hKb6 _) ?_;try dsimp only
 all_goals rfl
def Z132_q (a0:(Sl Z8)) (a1:(Z8->Bool)):Bool:=on (Z135_q a0 a1) fun x3=>(decide ((0:Int)<=x3))
theorem Z132_eq (a0:(Sl Z8)) (a1:(Z8->Bool)):Z132 a0 (fun y0=>some (a1 y0))=some (Z132_q a0 a1):=by
 unfold Z132 Z132_q;refine Q.bindP (Z135_eq _ _) fun x3 hx_x3=>?_;all_goals rfl
def Z12_q (a0:Z8) (a1:Z8):Bool:=((a0.FName==a1.FName))
theorem Z12_eq (a0:Z8) (a1:Z8):Z12 a0 a1=some (Z12_q a0 a1):=by
 unfold Z12 Z12_q;all_goals rfl
def Z11_q28 (x19:TDef):List Z8->Nat->Z0->Option (Z0)
 | [],s31_29,y30_id11_3=>some y30_id11_3
 | h28::r28,s31_29,y30_id11_3=>on (h28) fun x37=>on (Z18_q y30_id11_3 x37.FName (1:Int)) fun x39=>on (bif (decide (x39=(0:Int))) then(⟨x19.FMembers.nl,x19.FMembers.l.take s31_29⟩:Sl Z8) else(Sl.nil:Sl Z8)) fun x48=>on (bif (decide (x39=(0:Int))) then Z132_q x48 (fun y0=>Z12_q y0 x37) else false) fun x49=>on (bif ((decide (x39=(0:Int)))&&x49) then((7:Int)) else(x39)) fun s8_41=>Option.bind (bif (!decide (s8_41=(0:Int))) then((catC x19.FName ([46]:Bs)).bind fun x44=>(catC x44 x37.FName).bind fun x45=>(Z16_q y30_id11_3 s8_41 x45).bind fun x46=>some x46) else(some y30_id11_3)) fun y35_id11_3=>Z11_q28 x19 (r28) (s31_29+1) y35_id11_3
theorem Z11_l28_qe {s15_11:Nat}{x19:TDef}{k_next_10:Nat->Z0->Option (Sl Z4)}  (Kb28:(Z0)->Option (Sl Z4)) (hend:∀(n28:Nat) (s31_29:Nat) (y30_id11_3:Z0),Z11_j16 s15_11 k_next_10 y30_id11_3=Kb28 y30_id11_3):∀(n28:Nat) (s31_29:Nat) (y30_id11_3:Z0),(0<n28/\x19.FMembers.l.length<s31_29+n28)->Z11_l28 s15_11 x19 k_next_10 n28 s31_29 y30_id11_3=Option.bind (Z11_q28 x19 (x19.FMembers.l.drop s31_29) s31_29 y30_id11_3) Kb28:=by
 intro n28;induction n28 with
 | zero=>intro s31_29 y30_id11_3 hn; exact absurd hn.1 (by omega)
 | succ n28 ih28 =>
  intro s31_29 y30_id11_3 hn;rw [Z11_l28];by_cases hlt:s31_29<x19.FMembers.l.length
  ·obtain⟨h28,hh28⟩:=Qa hlt;rw [Q.drop_of hh28,Z11_q28];refine QT hlt ?_;refine Q.bindPO hh28 fun x37 hx_x37=>?_;refine Q.bindPO (Z18_eq _ _ _) fun x39 hx_x39=>?_;refine Q.guardPO (Q.partC_take (by omega)) fun x48 hx_x48=>?_;refine Q.guardPO (by simp only [Z12_eq,Z132_eq]) fun x49 hx_x49=>?_;refine Q.wrapPO fun Kj40 hKj40=>?_;have hj40:∀(s8_41:Int),Z11_j40 x19 s31_29 y30_id11_3 x37 (Z11_l28 s15_11 x19 k_next_10 n28) s8_41=Kj40 s8_41:=by
    intro s8_41;refine Qe (hKj40 _) ?_;unfold Z11_j40;refine Q.wrapOO fun Kj34 hKj34=>?_;have hj34:∀(y35_id11_3:Z0),Z11_j34 s31_29 (Z11_l28 s15_11 x19 k_next_10 n28) y35_id11_3=Kj34 y35_id11_3:=by
     intro y35_id11_3;refine Qe (hKj34 _) ?_;unfold Z11_j34;all_goals exact ih28 _ _ ⟨by omega,by omega⟩
    refine Q.condO ?_ ?_
    ·refine Q.bindO rfl fun x44=>?_;refine Q.bindO rfl fun x45=>?_;refine Q.bindO (Z16_eq _ _ _) fun x46=>?_;all_goals exact hj34 _
    all_goals exact hj34 _
   refine Q.condP ?_ ?_
   ·all_goals exact hj40 _
   all_goals exact hj40 _
  rw [dL (by omega),Z11_q28];refine QF hlt ?_;exact hend n28 s31_29 y30_id11_3
def Z11_q10 :List TDef->Z0->Option (Z0)
 | [],y12_id11_3=>some y12_id11_3
 | h10::r10,y12_id11_3=>on (h10) fun x19=>Option.bind (bif (decide (x19.FKind=(1:Int))) then((Z19_q y12_id11_3 x19).bind fun x23=>some x23) else(bif (decide (x19.FKind=(3:Int))) then(Option.bind (Z11_q28 x19 x19.FMembers.l 0 y12_id11_3) fun y30_id11_3=>some y30_id11_3) else(some y12_id11_3))) fun y17_id11_3=>Z11_q10  (r10) y17_id11_3
theorem Z11_l10_qe {a0:TDoc}  (Kb10:(Z0)->Option (Sl Z4)) (hend:∀(n10:Nat) (s15_11:Nat) (y12_id11_3:Z0),Z11_j5   y12_id11_3=Kb10 y12_id11_3):∀(n10:Nat) (s15_11:Nat) (y12_id11_3:Z0),(0<n10/\a0.FDefs.l.length<s15_11+n10)->Z11_l10 a0 n10 s15_11 y12_id11_3=Option.bind (Z11_q10  (a0.FDefs.l.drop s15_11) y12_id11_3) Kb10:=by
 intro n10;induction n10 with
 | zero=>intro s15_11 y12_id11_3 hn; exact absurd hn.1 (by omega)
 | succ n10 ih10 =>
  intro s15_11 y12_id11_3 hn;rw [Z11_l10];by_cases hlt:s15_11<a0.FDefs.l.length
  ·obtain⟨h10,hh10⟩:=Qa hlt;rw [Q.drop_of hh10,Z11_q10];refine QT hlt ?_;refine Q.bindPO hh10 fun x19 hx_x19=>?_;refine Q.wrapOO fun Kj16 hKj16=>?_;have hj16:∀(y17_id11_3:Z0),Z11_j16 s15_11 (Z11_l10 a0 n10) y17_id11_3=Kj16 y17_id11_3:=by
    intro y17_id11_3;refine Qe (hKj16 _) ?_;unfold Z11_j16;all_goals exact ih10 _ _ ⟨by omega,by omega⟩
   refine Q.condO ?_ ?_
   ·refine Q.bindO (Z19_eq _ _) fun x23=>?_;all_goals exact hj16 _
   refine Q.condO ?_ ?_
   ·refine Q.wrapOO fun Kb28 hKb28=>?_;refine Z11_l28_qe  Kb28 ?_ _ _ _ ⟨Nat.succ_pos _,by omega⟩;intro n28 s31_29 y30_id11_3;refine Qe (hKb28 _) ?_;all_goals exact hj16 _
   all_goals exact hj16 _
  rw [dL (by omega),Z11_q10];refine QF hlt ?_;exact hend n10 s15_11 y12_id11_3
def Z11_q (a0:TDoc):Option (Sl Z4):=Option.bind (Z11_q10  a0.FDefs.l (Z0.mk a0 (Sl.nil:Sl Z4))) fun y12_id11_3=>on (y12_id11_3) fun y6_id11_3=>some y6_id11_3.Fout
theorem Z11_eq (a0:TDoc):Z11 a0=Z11_q a0:=by
 unfold Z11 Z11_q;refine Qs ?_;refine Q.wrapOO fun Kb10 hKb10=>?_;refine Z11_l10_qe  Kb10 ?_ _ _ _ ⟨Nat.succ_pos _,by omega⟩;intro n10 s15_11 y12_id11_3;refine Qe (hKb10 _) ?_;refine Q.wrapPO fun Kj5 hKj5=>?_;have hj5:∀(y6_id11_3:Z0),Z11_j5  y6_id11_3=Kj5 y6_id11_3:=by
  intro y6_id11_3;refine Qe (hKj5 _) ?_;unfold Z11_j5;all_goals rfl
 all_goals exact hj5 _
def Z131_q (a0:(Sl Bs)):Option (Sl Bs):=bif a0.nl then(some (Sl.nil:Sl Bs)) else((appC 16 (⟨false,[]⟩:Sl Bs) a0).bind fun x7=>some x7)
theorem Z131_eq (a0:(Sl Bs)):Z131 a0=Z131_q a0:=by
 unfold Z131 Z131_q;refine Qs ?_;refine Q.condO ?_ ?_
 ·all_goals rfl
 refine Q.bindO rfl fun x7=>?_;all_goals rfl
def Z155_q8 (k_rec_128:Z10->Option Z10):List Z10->(Sl Z10)->Option ((Sl Z10))
 | [],s3_9=>some s3_9
 | h8::r8,s3_9=>on (h8) fun x16=>(k_rec_128 x16).bind fun x17=>(appC 80 s3_9 (⟨false,[x17]⟩:Sl Z10)).bind fun x18=>Z155_q8 k_rec_128 (r8) x18
theorem Z155_l8_qe {a0:(Sl Z10)}{k_rec_128:Z10->Option Z10}  (Kb8:((Sl Z10))->Option (Sl Z10)) (hend:∀(n8:Nat) (s3_9:(Sl Z10)) (s8_10:Nat),Z155_j3   s3_9=Kb8 s3_9):∀(n8:Nat) (s3_9:(Sl Z10)) (s8_10:Nat),(0<n8/\a0.l.length<s8_10+n8)->Z155_l8 a0 k_rec_128 n8 s3_9 s8_10=Option.bind (Z155_q8 k_rec_128 (a0.l.drop s8_10) s3_9) Kb8:=by
 intro n8;induction n8 with
 | zero=>intro s3_9 s8_10 hn; exact absurd hn.1 (by omega)
 | succ n8 ih8 =>
  intro s3_9 s8_10 hn;rw [Z155_l8];by_cases hlt:s8_10<a0.l.length
  ·obtain⟨h8,hh8⟩:=Qa hlt;rw [Q.drop_of hh8,Z155_q8];refine QT hlt ?_;refine Q.bindPO hh8 fun x16 hx_x16=>?_;refine Q.bindO rfl fun x17=>?_;refine Q.bindO rfl fun x18=>?_;all_goals exact ih8 _ _ ⟨by omega,by omega⟩
  rw [dL (by omega),Z155_q8];refine QF hlt ?_;exact hend n8 s3_9 s8_10
mutual
def value_Copy_qn:Nat->Z10->Option Z10
 | 0,_=>none
 | n+1,a0=>((Z155_qn n) a0.FItems).bind fun x3=>(Z131_q a0.FKeys).bind fun x5=>some (Z10.mk a0.FKind a0.FInt a0.FText x3.nl x3.l x5)
def Z155_qn:Nat->(Sl Z10)->Option (Sl Z10)
 | 0,_=>none
 | n+1,a0=>Option.bind (Z155_q8 (value_Copy_qn n) a0.l (Sl.nil:Sl Z10)) fun s3_9=>on (s3_9) fun s3_4=>some s3_4
end
theorem value_Copy_qall:∀n:Nat,value_Copy_n n=value_Copy_qn n/\Z155_n n=Z155_qn n:=by
 intro n;induction n with
 | zero=>exact⟨(by funext a0; first|rfl|(rw [value_Copy_n,value_Copy_qn])),(by funext a0; first|rfl|(rw [Z155_n,Z155_qn]))⟩
 | succ n ih =>
  refine⟨?_, ?_⟩
  ·funext a0
   refine Qs ?_;rw [value_Copy_n,value_Copy_qn];try rw [ih.1]
   try rw [ih.2]
   refine Q.bindO rfl fun x3=>?_;refine Q.bindO (Z131_eq _) fun x5=>?_;all_goals rfl
  funext a0
  refine Qs ?_;rw [Z155_n,Z155_qn];try rw [ih.1]
  try rw [ih.2]
  refine Q.wrapOO fun Kb8 hKb8=>?_;refine Z155_l8_qe  Kb8 ?_ _ _ _ ⟨Nat.succ_pos _,by omega⟩;intro n8 s3_9 s8_10;refine Qe (hKb8 _) ?_;refine Q.wrapPO fun Kj3 hKj3=>?_;have hj3:∀(s3_4:(Sl Z10)),Z155_j3  s3_4=Kj3 s3_4:=by
   intro s3_4;refine Qe (hKj3 _) ?_;unfold Z155_j3;all_goals rfl
  all_goals exact hj3 _
def value_Copy_q (a0:Z10):Option Z10:=value_Copy_qn F0 a0
theorem value_Copy_eq (a0:Z10):value_Copy a0=value_Copy_q a0:=by
 unfold value_Copy value_Copy_q; rw [(value_Copy_qall F0).1]
def Z153_q (a0:Z10) (a1:Bs):Option (Z10×Bool):=on (Z136_q a0.FKeys a1) fun x3=>bif (((!decide (a0.FKind=(6:Int)))||(decide (x3<(0:Int))))||(decide (((a0.FItems.l.length:Nat):Int)<=x3))) then(some ((Z10.mk (0:Int) (0:Int) ([]:Bs) true ([]) (Sl.nil:Sl Bs)),false)) else((idxC a0.FItems.l x3).bind fun x9=>(value_Copy_q x9).bind fun x10=>some (x10,true))
theorem Z153_eq (a0:Z10) (a1:Bs):Z153 a0 a1=Z153_q a0 a1:=by
 unfold Z153 Z153_q;refine Qs ?_;refine Q.bindPO (Z136_eq _ _) fun x3 hx_x3=>?_;refine Q.condO ?_ ?_
 ·all_goals rfl
 refine Q.bindO rfl fun x9=>?_;refine Q.bindO (value_Copy_eq _) fun x10=>?_;all_goals rfl
def Z27_q (a0:Z1) (a1:Z10):Option Bool:=bif ((!decide (a1.FKind=(7:Int)))||(!a0.Fliteral)) then(some false) else((Z153_q a0.Fvars a1.FText).bind fun x7=>some (!x7.2))
theorem Z27_eq (a0:Z1) (a1:Z10):Z27 a0 a1=Z27_q a0 a1:=by
 unfold Z27 Z27_q;refine Qs ?_;refine Q.condO ?_ ?_
 ·all_goals rfl
 refine Q.bindO (Z153_eq _ _) fun x7=>?_;all_goals rfl
def Z31_q (a0:Z10) (a1:Int):Option (Z10×Int):=bif (!decide (a1=(0:Int))) then(some ((Z10.mk (0:Int) (0:Int) ([]:Bs) true ([]) (Sl.nil:Sl Bs)),a1)) else((value_Copy_q a0).bind fun x7=>some (x7,(0:Int)))
theorem Z31_eq (a0:Z10) (a1:Int):Z31 a0 a1=Z31_q a0 a1:=by
 unfold Z31 Z31_q;refine Qs ?_;refine Q.condO ?_ ?_
 ·all_goals rfl
 refine Q.bindO (value_Copy_eq _) fun x7=>?_;all_goals rfl
def Z24_q (a0:Z1) (a1:Int):Option (Int×Z1):=bif (decide ((24:Int)<a1)) then(some ((5:Int),a0)) else((addC a0.Fnodes (1:Int)).bind fun x7=>bif (decide ((4096:Int)<x7)) then(some ((4:Int),(Z1.mk a0.Fd a0.Fvars a0.Fliteral x7))) else(some ((0:Int),(Z1.mk a0.Fd a0.Fvars a0.Fliteral x7))))
theorem Z24_eq (a0:Z1) (a1:Int):Z24 a0 a1=Z24_q a0 a1:=by
 unfold Z24 Z24_q;refine Qs ?_;refine Q.condO ?_ ?_
 ·all_goals rfl
 refine Q.bindO rfl fun x7=>?_;refine Q.condO ?_ ?_
 ·all_goals rfl
 all_goals rfl
def Z30_q13 (a2:Int) (k_rec_129:Z1->Z10->Int->Option (Int×Z1)):List Z10->Z1->Option (Z1 ⊕ ((Int×Z1)))
 | [],y15_c0=>some (Sum.inl y15_c0)
 | h13::r13,y15_c0=>on (h13) fun x21=>(addC a2 (1:Int)).bind fun x23=>(k_rec_129 y15_c0 x21 x23).bind fun x24=>bif (!decide (x24.1=(0:Int))) then(some (Sum.inr (x24.1,x24.2))) else(Z30_q13 a2 k_rec_129 (r13) x24.2)
theorem Z30_l13_qe {a1:Z10}{a2:Int}{k_rec_129:Z1->Z10->Int->Option (Int×Z1)}  (Kb13:(Z1 ⊕ ((Int×Z1)))->Option (Int×Z1)) (hend:∀(n13:Nat) (s20_14:Nat) (y15_c0:Z1),Z30_j8   y15_c0=Kb13 (Sum.inl y15_c0)) (hret:∀e:(Int×Z1),some e=Kb13 (Sum.inr e)):∀(n13:Nat) (s20_14:Nat) (y15_c0:Z1),(0<n13/\a1.FItems.l.length<s20_14+n13)->Z30_l13 a1 a2 k_rec_129 n13 s20_14 y15_c0=Option.bind (Z30_q13 a2 k_rec_129 (a1.FItems.l.drop s20_14) y15_c0) Kb13:=by
 intro n13;induction n13 with
 | zero=>intro s20_14 y15_c0 hn; exact absurd hn.1 (by omega)
 | succ n13 ih13 =>
  intro s20_14 y15_c0 hn;rw [Z30_l13];by_cases hlt:s20_14<a1.FItems.l.length
  ·obtain⟨h13,hh13⟩:=Qa hlt;rw [Q.drop_of hh13,Z30_q13];refine QT hlt ?_;refine Q.bindPO hh13 fun x21 hx_x21=>?_;refine Q.bindO rfl fun x23=>?_;refine Q.bindO rfl fun x24=>?_;refine Q.condO ?_ ?_
   ·all_goals exact hret _
   all_goals exact ih13 _ _ ⟨by omega,by omega⟩
  rw [dL (by omega),Z30_q13];refine QF hlt ?_;exact hend n13 s20_14 y15_c0
def Z30_qn:Nat->Z1->Z10->Int->Option (Int×Z1)
 | 0,_,_,_=>none
 | n+1,a0,a1,a2=>(Z24_q a0 a2).bind fun x4=>bif (!decide (x4.1=(0:Int))) then(some (x4.1,x4.2)) else(Option.bind (Z30_q13 a2 (Z30_qn n) a1.FItems.l x4.2) fun o13=>match o13 with|Sum.inl y15_c0=>(on (y15_c0) fun y9_c0=>some ((0:Int),y9_c0))|Sum.inr e13=>(some e13))
theorem Z30_qall:∀n:Nat,Z30_n n=Z30_qn n:=by
 intro n;induction n with
 | zero=>exact(by funext a0 a1 a2; first|rfl|(rw [Z30_n,Z30_qn]))
 | succ n ih =>
  funext a0 a1 a2
  refine Qs ?_;rw [Z30_n,Z30_qn];try rw [ih]
  refine Q.bindO (Z24_eq _ _) fun x4=>?_;refine Q.condO ?_ ?_
  ·all_goals rfl
  refine Q.wrapOO fun Kb13 hKb13=>?_;refine Z30_l13_qe  Kb13 ?_ ?_ _ _ _ ⟨Nat.succ_pos _,by omega⟩
  ·intro n13 s20_14 y15_c0;refine Qe (hKb13 _) ?_;try dsimp only
   refine Q.wrapPO fun Kj8 hKj8=>?_;have hj8:∀(y9_c0:Z1),Z30_j8  y9_c0=Kj8 y9_c0:=by
    intro y9_c0;refine Qe (hKj8 _) ?_;unfold Z30_j8;all_goals rfl
   all_goals exact hj8 _
  intro e13;refine Qe (hKb13 _) ?_;try dsimp only
  all_goals rfl
def Z30_q (a0:Z1) (a1:Z10) (a2:Int):Option (Int×Z1):=Z30_qn F0 a0 a1 a2
theorem Z30_eq (a0:Z1) (a1:Z10) (a2:Int):Z30 a0 a1 a2=Z30_q a0 a1 a2:=by
 unfold Z30 Z30_q; rw [(Z30_qall F0)]
def Z29_q (a0:Z10) (a1:Bool) (a2:Z1):Z1:=(Z1.mk a2.Fd a0 a1 a2.Fnodes)
theorem Z29_eq (a0:Z10) (a1:Bool) (a2:Z1):Z29 a0 a1 a2=some (Z29_q a0 a1 a2):=by
 unfold Z29 Z29_q;all_goals rfl
def Z154_q (a0:Bs):Z10:=(Z10.mk (3:Int) (0:Int) a0 true ([]) (Sl.nil:Sl Bs))
theorem Z154_eq (a0:Bs):Z154 a0=some (Z154_q a0):=by
 unfold Z154 Z154_q;all_goals rfl
def Z139_q (a0:Int):Option Bs:=(Z137_q a0).bind fun x3=>some x3
theorem Z139_eq (a0:Int):Z139 a0=Z139_q a0:=by
 unfold Z139 Z139_q;refine Qs ?_;refine Q.bindO (Z137_eq _) fun x3=>?_;all_goals rfl
def Z26_q (a0:Z8) (a1:Z10):Bool:=((a0.FName==a1.FText))
theorem Z26_eq (a0:Z8) (a1:Z10):Z26 a0 a1=some (Z26_q a0 a1):=by
 unfold Z26 Z26_q;all_goals rfl
def Z25_q (a0:Z1) (a1:Bs) (a2:Z10):Option (Z10×Int):=on (fun(s8_4:Bool) (y5_l0:Z10)=>bif (!s8_4) then(some ((Z10.mk (0:Int) (0:Int) ([]:Bs) true ([]) (Sl.nil:Sl Bs)),(23:Int))) else(some (y5_l0,(0:Int)))) fun kj3=>bif ((a1==([73,110,116]:Bs))) then(kj3 (((decide (a2.FKind=(2:Int)))&&(decide ((-2147483648:Int)<=a2.FInt)))&&(decide (a2.FInt<(2147483648:Int)))) a2) else(bif ((a1==([83,116,114,105,110,103]:Bs))) then(kj3 (decide (a2.FKind=(3:Int))) a2) else(bif ((a1==([66,111,111,108,101,97,110]:Bs))) then(kj3 (decide (a2.FKind=(1:Int))) a2) else(bif ((a1==([73,68]:Bs))) then(Option.bind (bif (decide (a2.FKind=(2:Int))) then((Z139_q a2.FInt).bind fun x24=>on (Z154_q x24) fun x25=>some x25) else(some a2)) fun y21_l0=>kj3 (decide (y21_l0.FKind=(3:Int))) y21_l0) else(on (bif ((decide (a2.FKind=(3:Int)))&&(!a0.Fliteral)) then((Z10.mk (4:Int) a2.FInt a2.FText a2.FItems.nl a2.FItems.l a2.FKeys)) else(a2)) fun y27_l0=>on (Z114_q a0.Fd a1) fun x29=>on (bif (decide (y27_l0.FKind=(4:Int))) then Z132_q x29.1.FMembers (fun y0=>Z26_q y0 y27_l0) else false) fun x30=>bif (!((decide (y27_l0.FKind=(4:Int)))&&x30)) then(some ((Z10.mk (0:Int) (0:Int) ([]:Bs) true ([]) (Sl.nil:Sl Bs)),(23:Int))) else(some (y27_l0,(0:Int)))))))
theorem Z25_eq (a0:Z1) (a1:Bs) (a2:Z10):Z25 a0 a1 a2=Z25_q a0 a1 a2:=by
 unfold Z25 Z25_q;refine Qs ?_;refine Q.mixO fun kj3 hkj3=>?_;have hj3:∀(s8_4:Bool) (y5_l0:Z10),Z25_j3  s8_4 y5_l0=Option.bind (kj3 s8_4 y5_l0) some:=by
  intro s8_4 y5_l0;unfold Z25_j3;rw [hkj3];try dsimp only
  refine Q.condO ?_ ?_
  ·all_goals rfl
  all_goals rfl
 refine Q.condO ?_ ?_
 ·all_goals exact hj3 _ _
 refine Q.condO ?_ ?_
 ·all_goals exact hj3 _ _
 refine Q.condO ?_ ?_
 ·all_goals exact hj3 _ _
 refine Q.condO ?_ ?_
 ·refine Q.wrapOO fun Kj20 hKj20=>?_;have hj20:∀(y21_l0:Z10),Z25_j20  y21_l0=Kj20 y21_l0:=by
   intro y21_l0;refine Qe (hKj20 _) ?_;unfold Z25_j20;all_goals exact hj3 _ _
  refine Q.condO ?_ ?_
  ·refine Q.bindO (Z139_eq _) fun x24=>?_;refine Q.bindPO (Z154_eq _) fun x25 hx_x25=>?_;all_goals exact hj20 _
  all_goals exact hj20 _
 refine Q.wrapPO fun Kj26 hKj26=>?_;have hj26:∀(y27_l0:Z10),Z25_j26 a0 a1 y27_l0=Kj26 y27_l0:=by
  intro y27_l0;refine Qe (hKj26 _) ?_;unfold Z25_j26;refine Q.bindPO (Z114_eq _ _) fun x29 hx_x29=>?_;refine Q.guardPO (by simp only [Z26_eq,Z132_eq]) fun x30 hx_x30=>?_;refine Q.condO ?_ ?_
  ·all_goals rfl
  all_goals rfl
 refine Q.condP ?_ ?_
 ·all_goals exact hj26 _
 all_goals exact hj26 _
def coerce_coercer_list_q14 (a1:TRef) (a3:Int) (k_rec_82:Z1->TRef->Z10->Int->Option (Z10×Int×Z1)):List Z10->Z1->Z10->Option (((Z1×Z10)) ⊕ ((Z10×Int×Z1)))
 | [],y16_c0,y18_l1=>some (Sum.inl (y16_c0,y18_l1))
 | h14::r14,y16_c0,y18_l1=>on (h14) fun x24=>(addC a3 (1:Int)).bind fun x26=>(k_rec_82 y16_c0 a1 x24 x26).bind fun x27=>bif (!decide (x27.2.1=(0:Int))) then(some (Sum.inr ((Z10.mk (0:Int) (0:Int) ([]:Bs) true ([]) (Sl.nil:Sl Bs)),x27.2.1,x27.2.2))) else((appC 80 y18_l1.FItems (⟨false,[x27.1]⟩:Sl Z10)).bind fun x32=>coerce_coercer_list_q14 a1 a3 k_rec_82 (r14) x27.2.2 (Z10.mk y18_l1.FKind y18_l1.FInt y18_l1.FText x32.nl x32.l y18_l1.FKeys))
theorem coerce_coercer_list_l14_qe {a1:TRef}{a3:Int}{s10_4:(Sl Z10)}{k_rec_82:Z1->TRef->Z10->Int->Option (Z10×Int×Z1)}  (Kb14:(((Z1×Z10)) ⊕ ((Z10×Int×Z1)))->Option (Z10×Int×Z1)) (hend:∀(n14:Nat) (s26_15:Nat) (y16_c0:Z1) (y17_l0:Z10) (y18_l1:Z10),coerce_coercer_list_j7   y16_c0 y17_l0 y18_l1=Kb14 (Sum.inl (y16_c0,y18_l1))) (hret:∀e:(Z10×Int×Z1),some e=Kb14 (Sum.inr e)):∀(n14:Nat) (s26_15:Nat) (y16_c0:Z1) (y17_l0:Z10) (y18_l1:Z10),(0<n14/\s10_4.l.length<s26_15+n14)->coerce_coercer_list_l14 a1 a3 s10_4 k_rec_82 n14 s26_15 y16_c0 y17_l0 y18_l1=Option.bind (coerce_coercer_list_q14 a1 a3 k_rec_82 (s10_4.l.drop s26_15) y16_c0 y18_l1) Kb14:=by
 intro n14;induction n14 with
 | zero=>intro s26_15 y16_c0 y17_l0 y18_l1 hn; exact absurd hn.1 (by omega)
 | succ n14 ih14 =>
  intro s26_15 y16_c0 y17_l0 y18_l1 hn;rw [coerce_coercer_list_l14];by_cases hlt:s26_15<s10_4.l.length
  ·obtain⟨h14,hh14⟩:=Qa hlt;rw [Q.drop_of hh14,coerce_coercer_list_q14];refine QT hlt ?_;refine Q.bindPO hh14 fun x24 hx_x24=>?_;refine Q.bindO rfl fun x26=>?_;refine Q.bindO rfl fun x27=>?_;refine Q.condO ?_ ?_
   ·all_goals exact hret _
   refine Q.bindO rfl fun x32=>?_;all_goals exact ih14 _ _ _ _ ⟨by omega,by omega⟩
  rw [dL (by omega),coerce_coercer_list_q14];refine QF hlt ?_;exact hend n14 s26_15 y16_c0 y17_l0 y18_l1
def coerce_coercer_object_q66 (a0:Z1) (a1:TDef):List Bs->Unit ⊕ ((Z10×Int×Z1))
 | []=>Sum.inl ()
 | h66::r66=>on (h66) fun x74=>on (Z115_q a1.FInputs x74) fun x76=>bif (!x76.2) then(Sum.inr ((Z10.mk (0:Int) (0:Int) ([]:Bs) true ([]) (Sl.nil:Sl Bs)),(22:Int),a0)) else(coerce_coercer_object_q66 a0 a1 (r66) )
theorem coerce_coercer_object_l66_qe {a0:Z1}{a1:TDef}{a2:Z10}{a3:Int}{k_rec_167:Z1->Z7->Int->Option (Z10×Int×Z1)}{k_rec_82:Z1->TRef->Z10->Int->Option (Z10×Int×Z1)}  (Kb66:(Unit ⊕ ((Z10×Int×Z1)))->Option (Z10×Int×Z1)) (hend:∀(n66:Nat) (s30_67:Nat) (y68_l0:Z10),coerce_coercer_object_j6 a0 a1 a2 a3 k_rec_167 k_rec_82 y68_l0=Kb66 (Sum.inl ())) (hret:∀e:(Z10×Int×Z1),some e=Kb66 (Sum.inr e)):∀(n66:Nat) (s30_67:Nat) (y68_l0:Z10),(0<n66/\a2.FKeys.l.length<s30_67+n66)->coerce_coercer_object_l66 a0 a1 a2 a3 k_rec_167 k_rec_82 n66 s30_67 y68_l0=Kb66 (coerce_coercer_object_q66 a0 a1 (a2.FKeys.l.drop s30_67) ):=by
 intro n66;induction n66 with
 | zero=>intro s30_67 y68_l0 hn; exact absurd hn.1 (by omega)
 | succ n66 ih66 =>
  intro s30_67 y68_l0 hn;rw [coerce_coercer_object_l66];by_cases hlt:s30_67<a2.FKeys.l.length
  ·obtain⟨h66,hh66⟩:=Qa hlt;rw [Q.drop_of hh66,coerce_coercer_object_q66];refine QT hlt ?_;refine Q.bindP hh66 fun x74 hx_x74=>?_;refine Q.bindP (Z115_eq _ _) fun x76 hx_x76=>?_;refine Q.condP ?_ ?_
   ·all_goals exact hret _
   all_goals exact ih66 _ _ ⟨by omega,by omega⟩
  rw [dL (by omega),coerce_coercer_object_q66];refine QF hlt ?_;exact hend n66 s30_67 y68_l0
def coerce_coercer_object_q18 (a1:TDef) (a2:Z10) (a3:Int) (k_rec_167:Z1->Z7->Int->Option (Z10×Int×Z1)) (k_rec_82:Z1->TRef->Z10->Int->Option (Z10×Int×Z1)):List Z7->Nat->Z1->Z10->Option (((Z1×Z10)) ⊕ ((Z10×Int×Z1)))
 | [],s49_19,y20_c0,y22_l1=>some (Sum.inl (y20_c0,y22_l1))
 | h18::r18,s49_19,y20_c0,y22_l1=>on (h18) fun x31=>on ((⟨a1.FInputs.nl,a1.FInputs.l.take s49_19⟩:Sl Z7)) fun x34=>on (Z115_q x34 x31.FName) fun x35=>on (fun(y27_c0:Z1) (y29_l1:Z10)=>coerce_coercer_object_q18 a1 a2 a3 k_rec_167 k_rec_82 (r18) (s49_19+1) y27_c0 y29_l1) fun kj26=>bif x35.2 then(kj26 y20_c0 y22_l1) else((Z153_q a2 x31.FName).bind fun x39=>guardO (x39.2) (Z27_q y20_c0 x39.1) false fun x53=>on (fun(s22_43:Int) (y44_c0:Z1) (y45_l2:Z10)=>bif (!decide (s22_43=(0:Int))) then(some (Sum.inr ((Z10.mk (0:Int) (0:Int) ([]:Bs) true ([]) (Sl.nil:Sl Bs)),s22_43,y44_c0))) else((appC 16 y22_l1.FKeys (⟨false,[x31.FName]⟩:Sl Bs)).bind fun x50=>(appC 80 y22_l1.FItems (⟨false,[y45_l2]⟩:Sl Z10)).bind fun x51=>kj26 y44_c0 (Z10.mk y22_l1.FKind y22_l1.FInt y22_l1.FText x51.nl x51.l x50))) fun kj42=>bif (x39.2&&(!x53)) then((addC a3 (1:Int)).bind fun x55=>(k_rec_82 y20_c0 x31.FType x39.1 x55).bind fun x56=>kj42 x56.2.1 x56.2.2 x56.1) else(bif x31.FHas then((addC a3 (1:Int)).bind fun x59=>(k_rec_167 y20_c0 x31 x59).bind fun x60=>kj42 x60.2.1 x60.2.2 x60.1) else(on (Z144_q x31.FType) fun x62=>bif x62 then(kj42 (22:Int) y20_c0 Z10.zero) else(kj26 y20_c0 y22_l1))))
theorem coerce_coercer_object_l18_qe {a1:TDef}{a2:Z10}{a3:Int}{k_rec_167:Z1->Z7->Int->Option (Z10×Int×Z1)}{k_rec_82:Z1->TRef->Z10->Int->Option (Z10×Int×Z1)}  (Kb18:(((Z1×Z10)) ⊕ ((Z10×Int×Z1)))->Option (Z10×Int×Z1)) (hend:∀(n18:Nat) (s49_19:Nat) (y20_c0:Z1) (y21_l0:Z10) (y22_l1:Z10),coerce_coercer_object_j11   y20_c0 y21_l0 y22_l1=Kb18 (Sum.inl (y20_c0,y22_l1))) (hret:∀e:(Z10×Int×Z1),some e=Kb18 (Sum.inr e)):∀(n18:Nat) (s49_19:Nat) (y20_c0:Z1) (y21_l0:Z10) (y22_l1:Z10),(0<n18/\a1.FInputs.l.length<s49_19+n18)->coerce_coercer_object_l18 a1 a2 a3 k_rec_167 k_rec_82 n18 s49_19 y20_c0 y21_l0 y22_l1=Option.bind (coerce_coercer_object_q18 a1 a2 a3 k_rec_167 k_rec_82 (a1.FInputs.l.drop s49_19) s49_19 y20_c0 y22_l1) Kb18:=by
 intro n18;induction n18 with
 | zero=>intro s49_19 y20_c0 y21_l0 y22_l1 hn; exact absurd hn.1 (by omega)
 | succ n18 ih18 =>
  intro s49_19 y20_c0 y21_l0 y22_l1 hn;rw [coerce_coercer_object_l18];by_cases hlt:s49_19<a1.FInputs.l.length
  ·obtain⟨h18,hh18⟩:=Qa hlt;rw [Q.drop_of hh18,coerce_coercer_object_q18];refine QT hlt ?_;refine Q.bindPO hh18 fun x31 hx_x31=>?_;refine Q.bindPO (Q.partC_take (by omega)) fun x34 hx_x34=>?_;refine Q.bindPO (Z115_eq _ _) fun x35 hx_x35=>?_;refine Q.mixO fun kj26 hkj26=>?_;have hj26:∀(y27_c0:Z1) (y28_l0:Z10) (y29_l1:Z10),coerce_coercer_object_j26 s49_19 (coerce_coercer_object_l18 a1 a2 a3 k_rec_167 k_rec_82 n18) y27_c0 y28_l0 y29_l1=Option.bind (kj26 y27_c0 y29_l1) Kb18:=by
    intro y27_c0 y28_l0 y29_l1;unfold coerce_coercer_object_j26;rw [hkj26];try dsimp only
    all_goals exact ih18 _ _ _ _ ⟨by omega,by omega⟩
   refine Q.condO ?_ ?_
   ·all_goals exact hj26 _ _ _
   refine Q.bindO (Z153_eq _ _) fun x39=>?_;refine Q.guardOO (Z27_eq _ _) fun x53=>?_;refine Q.mixO fun kj42 hkj42=>?_;have hj42:∀(s22_43:Int) (y44_c0:Z1) (y45_l2:Z10),coerce_coercer_object_j42 s49_19 y21_l0 y22_l1 x31 (coerce_coercer_object_l18 a1 a2 a3 k_rec_167 k_rec_82 n18) s22_43 y44_c0 y45_l2=Option.bind (kj42 s22_43 y44_c0 y45_l2) Kb18:=by
    intro s22_43 y44_c0 y45_l2;unfold coerce_coercer_object_j42;rw [hkj42];try dsimp only
    refine Q.condO ?_ ?_
    ·all_goals exact hret _
    refine Q.bindO rfl fun x50=>?_;refine Q.bindO rfl fun x51=>?_;all_goals exact hj26 _ _ _
   refine Q.condO ?_ ?_
   ·refine Q.bindO rfl fun x55=>?_;refine Q.bindO rfl fun x56=>?_;all_goals exact hj42 _ _ _
   refine Q.condO ?_ ?_
   ·refine Q.bindO rfl fun x59=>?_;refine Q.bindO rfl fun x60=>?_;all_goals exact hj42 _ _ _
   refine Q.bindPO (Z144_eq _) fun x62 hx_x62=>?_;refine Q.condO ?_ ?_
   ·all_goals exact hj42 _ _ _
   all_goals exact hj26 _ _ _
  rw [dL (by omega),coerce_coercer_object_q18];refine QF hlt ?_;exact hend n18 s49_19 y20_c0 y21_l0 y22_l1
mutual
def coerce_coercer_at_qn:Nat->Z1->TRef->Z10->Int->Option (Z10×Int×Z1)
 | 0,_,_,_,_=>none
 | n+1,a0,a1,a2,a3=>on (Z116_q a0.Fd a1.FName) fun x4=>bif (!x4) then(some ((Z10.mk (0:Int) (0:Int) ([]:Bs) true ([]) (Sl.nil:Sl Bs)),(10:Int),a0)) else(on (fun(y8_c0:Z1) (y9_l0:Z10)=>(Z24_q y8_c0 a3).bind fun x13=>bif (!decide (x13.1=(0:Int))) then(some ((Z10.mk (0:Int) (0:Int) ([]:Bs) true ([]) (Sl.nil:Sl Bs)),x13.1,x13.2)) else(bif (decide (y9_l0.FKind=(0:Int))) then(on (Z144_q a1) fun x22=>bif x22 then(some ((Z10.mk (0:Int) (0:Int) ([]:Bs) true ([]) (Sl.nil:Sl Bs)),(23:Int),x13.2)) else(some ((Z10.mk (0:Int) (0:Int) ([]:Bs) true ([]) (Sl.nil:Sl Bs)),(0:Int),x13.2))) else((Z142_q a1).bind fun x28=>bif x28.2 then(((coerce_coercer_list_qn n) x13.2 x28.1 y9_l0 a3).bind fun x32=>some (x32.1,x32.2.1,x32.2.2)) else(on (Z114_q x13.2.Fd a1.FName) fun x35=>on (bif x35.2 then Z119_q a1.FName else false) fun x37=>bif ((x35.2&&(!x37))&&(decide (x35.1.FKind=(5:Int)))) then(((coerce_coercer_object_qn n) x13.2 x35.1 y9_l0 a3).bind fun x40=>some (x40.1,x40.2.1,x40.2.2)) else((Z25_q x13.2 a1.FName y9_l0).bind fun x42=>some (x42.1,x42.2,x13.2)))))) fun kj7=>bif ((decide (a2.FKind=(7:Int)))&&a0.Fliteral) then((Z153_q a0.Fvars a2.FText).bind fun x46=>bif (!decide (x46.1.FKind=(0:Int))) then((Z30_q a0 x46.1 a3).bind fun x50=>bif (!decide (x50.1=(0:Int))) then(some ((Z10.mk (0:Int) (0:Int) ([]:Bs) true ([]) (Sl.nil:Sl Bs)),x50.1,x50.2)) else(some (x46.1,(0:Int),x50.2))) else(kj7 a0 x46.1)) else(kj7 a0 a2))
def coerce_coercer_list_qn:Nat->Z1->TRef->Z10->Int->Option (Z10×Int×Z1)
 | 0,_,_,_,_=>none
 | n+1,a0,a1,a2,a3=>on (bif (!decide (a2.FKind=(5:Int))) then((⟨false,[a2]⟩:Sl Z10)) else(a2.FItems)) fun s10_4=>Option.bind (coerce_coercer_list_q14 a1 a3 (coerce_coercer_at_qn n) s10_4.l a0 (Z10.mk (5:Int) (0:Int) ([]:Bs) true ([]) (Sl.nil:Sl Bs))) fun o14=>match o14 with|Sum.inl z14=>(on ((z14.1,z14.2)) fun z7=>some (z7.2,(0:Int),z7.1))|Sum.inr e14=>(some e14)
def coerce_coercer_object_qn:Nat->Z1->TDef->Z10->Int->Option (Z10×Int×Z1)
 | 0,_,_,_,_=>none
 | n+1,a0,a1,a2,a3=>bif (!decide (a2.FKind=(6:Int))) then(some ((Z10.mk (0:Int) (0:Int) ([]:Bs) true ([]) (Sl.nil:Sl Bs)),(23:Int),a0)) else(on (coerce_coercer_object_q66 a0 a1 a2.FKeys.l ) fun o66=>match o66 with|Sum.inl _=>(on (()) fun _=>Option.bind (coerce_coercer_object_q18 a1 a2 a3 (Z28_qn n) (coerce_coercer_at_qn n) a1.FInputs.l 0 a0 (Z10.mk (6:Int) (0:Int) ([]:Bs) true ([]) (Sl.nil:Sl Bs))) fun o18=>match o18 with|Sum.inl z18=>(on ((z18.1,z18.2)) fun z11=>some (z11.2,(0:Int),z11.1))|Sum.inr e18=>(some e18))|Sum.inr e66=>(some e66))
def Z28_qn:Nat->Z1->Z7->Int->Option (Z10×Int×Z1)
 | 0,_,_,_=>none
 | n+1,a0,a1,a2=>((coerce_coercer_at_qn n) (Z1.mk a0.Fd (Z10.mk (0:Int) (0:Int) ([]:Bs) true ([]) (Sl.nil:Sl Bs)) true a0.Fnodes) a1.FType a1.FDefault a2).bind fun x5=>on (Z29_q a0.Fvars a0.Fliteral x5.2.2) fun x6=>some (x5.1,x5.2.1,x6)
end
theorem coerce_coercer_at_qall:∀n:Nat,coerce_coercer_at_n n=coerce_coercer_at_qn n/\coerce_coercer_list_n n=coerce_coercer_list_qn n/\coerce_coercer_object_n n=coerce_coercer_object_qn n/\Z28_n n=Z28_qn n:=by
 intro n;induction n with
 | zero=>exact⟨(by funext a0 a1 a2 a3; first|rfl|(rw [coerce_coercer_at_n,coerce_coercer_at_qn])),(by funext a0 a1 a2 a3; first|rfl|(rw [coerce_coercer_list_n,coerce_coercer_list_qn])),(by funext a0 a1 a2 a3; first|rfl|(rw [coerce_coercer_object_n,coerce_coercer_object_qn])),(by funext a0 a1 a2; first|rfl|(rw [Z28_n,Z28_qn]))⟩
 | succ n ih =>
  refine⟨?_, ?_, ?_, ?_⟩
  ·funext a0 a1 a2 a3
   refine Qs ?_;rw [coerce_coercer_at_n,coerce_coercer_at_qn];try rw [ih.1]
   try rw [ih.2.1]
   try rw [ih.2.2.1]
   try rw [ih.2.2.2]
   refine Q.bindPO (Z116_eq _ _) fun x4 hx_x4=>?_;refine Q.condO ?_ ?_
   ·all_goals rfl
   refine Q.mixO fun kj7 hkj7=>?_;have hj7:∀(y8_c0:Z1) (y9_l0:Z10) (y10_l1:Z10),coerce_coercer_at_j7 a1 a3 (coerce_coercer_list_qn n) (coerce_coercer_object_qn n) y8_c0 y9_l0 y10_l1=Option.bind (kj7 y8_c0 y9_l0) some:=by
    intro y8_c0 y9_l0 y10_l1;unfold coerce_coercer_at_j7;rw [hkj7];try dsimp only
    refine Q.bindO (Z24_eq _ _) fun x13=>?_;refine Q.condO ?_ ?_
    ·all_goals rfl
    refine Q.condO ?_ ?_
    ·refine Q.bindPO (Z144_eq _) fun x22 hx_x22=>?_;refine Q.condO ?_ ?_
     ·all_goals rfl
     all_goals rfl
    refine Q.bindO (Z142_eq _) fun x28=>?_;refine Q.condO ?_ ?_
    ·refine Q.bindO rfl fun x32=>?_;all_goals rfl
    refine Q.bindPO (Z114_eq _ _) fun x35 hx_x35=>?_;refine Q.guardPO (Z119_eq _) fun x37 hx_x37=>?_;refine Q.condO ?_ ?_
    ·refine Q.bindO rfl fun x40=>?_;all_goals rfl
    refine Q.bindO (Z25_eq _ _ _) fun x42=>?_;all_goals rfl
   refine Q.condO ?_ ?_
   ·refine Q.bindO (Z153_eq _ _) fun x46=>?_;refine Q.condO ?_ ?_
    ·refine Q.bindO (Z30_eq _ _ _) fun x50=>?_;refine Q.condO ?_ ?_
     ·all_goals rfl
     all_goals rfl
    all_goals exact hj7 _ _ _
   all_goals exact hj7 _ _ _
  ·funext a0 a1 a2 a3
   refine Qs ?_;rw [coerce_coercer_list_n,coerce_coercer_list_qn];try rw [ih.1]
   try rw [ih.2.1]
   try rw [ih.2.2.1]
   try rw [ih.2.2.2]
   refine Q.wrapPO fun Kj3 hKj3=>?_;have hj3:∀(s10_4:(Sl Z10)),coerce_coercer_list_j3 a0 a1 a3 (coerce_coercer_at_qn n) s10_4=Kj3 s10_4:=by
    intro s10_4;refine Qe (hKj3 _) ?_;unfold coerce_coercer_list_j3;refine Q.wrapOO fun Kb14 hKb14=>?_;refine coerce_coercer_list_l14_qe  Kb14 ?_ ?_ _ _ _ _ _ ⟨Nat.succ_pos _,by omega⟩
    ·intro n14 s26_15 y16_c0 y17_l0 y18_l1;refine Qe (hKb14 _) ?_;try dsimp only
     refine Q.wrapPO fun Kj7 hKj7=>?_;have hj7:∀(y8_c0:Z1) (y9_l0:Z10) (y10_l1:Z10),coerce_coercer_list_j7  y8_c0 y9_l0 y10_l1=Kj7 (y8_c0,y10_l1):=by
      intro y8_c0 y9_l0 y10_l1;refine Qe (hKj7 _) ?_;try dsimp only
      unfold coerce_coercer_list_j7;all_goals rfl
     all_goals exact hj7 _ _ _
    intro e14;refine Qe (hKb14 _) ?_;try dsimp only
    all_goals rfl
   refine Q.condP ?_ ?_
   ·all_goals exact hj3 _
   all_goals exact hj3 _
  ·funext a0 a1 a2 a3
   refine Qs ?_;rw [coerce_coercer_object_n,coerce_coercer_object_qn];try rw [ih.1]
   try rw [ih.2.1]
   try rw [ih.2.2.1]
   try rw [ih.2.2.2]
   refine Q.condO ?_ ?_
   ·all_goals rfl
   refine Q.wrapPO fun Kb66 hKb66=>?_;refine coerce_coercer_object_l66_qe  Kb66 ?_ ?_ _ _ _ ⟨Nat.succ_pos _,by omega⟩
   ·intro n66 s30_67 y68_l0;refine Qe (hKb66 _) ?_;try dsimp only
    refine Q.wrapPO fun Kj6 hKj6=>?_;have hj6:∀(y7_l0:Z10),coerce_coercer_object_j6 a0 a1 a2 a3 (Z28_qn n) (coerce_coercer_at_qn n) y7_l0=Kj6 ():=by
     intro y7_l0;refine Qe (hKj6 _) ?_;unfold coerce_coercer_object_j6;refine Q.wrapOO fun Kb18 hKb18=>?_;refine coerce_coercer_object_l18_qe  Kb18 ?_ ?_ _ _ _ _ _ ⟨Nat.succ_pos _,by omega⟩
     ·intro n18 s49_19 y20_c0 y21_l0 y22_l1;refine Qe (hKb18 _) ?_;try dsimp only
      refine Q.wrapPO fun Kj11 hKj11=>?_;have hj11:∀(y12_c0:Z1) (y13_l0:Z10) (y14_l1:Z10),coerce_coercer_object_j11  y12_c0 y13_l0 y14_l1=Kj11 (y12_c0,y14_l1):=by
       intro y12_c0 y13_l0 y14_l1;refine Qe (hKj11 _) ?_;try dsimp only
       unfold coerce_coercer_object_j11;all_goals rfl
      all_goals exact hj11 _ _ _
     intro e18;refine Qe (hKb18 _) ?_;try dsimp only
     all_goals rfl
    all_goals exact hj6 _
   intro e66;refine Qe (hKb66 _) ?_;try dsimp only
   all_goals rfl
  funext a0 a1 a2
  refine Qs ?_;rw [Z28_n,Z28_qn];try rw [ih.1]
  try rw [ih.2.1]
  try rw [ih.2.2.1]
  try rw [ih.2.2.2]
  refine Q.bindO rfl fun x5=>?_;refine Q.bindPO (Z29_eq _ _ _) fun x6 hx_x6=>?_;all_goals rfl
def coerce_coercer_at_q (a0:Z1) (a1:TRef) (a2:Z10) (a3:Int):Option (Z10×Int×Z1):=coerce_coercer_at_qn F0 a0 a1 a2 a3
theorem coerce_coercer_at_eq (a0:Z1) (a1:TRef) (a2:Z10) (a3:Int):coerce_coercer_at a0 a1 a2 a3=coerce_coercer_at_q a0 a1 a2 a3:=by
 unfold coerce_coercer_at coerce_coercer_at_q; rw [(coerce_coercer_at_qall F0).1]
def Z23_q (a0:TDoc) (a1:TRef) (a2:Z10) (a3:Z10):Option (Z10×Int):=(Z27_q (Z1.mk a0 a3 true (0:Int)) a2).bind fun x6=>bif x6 then(on (Z116_q a0 a1.FName) fun x10=>bif (!x10) then(some ((Z10.mk (0:Int) (0:Int) ([]:Bs) true ([]) (Sl.nil:Sl Bs)),(10:Int))) else(some ((Z10.mk (0:Int) (0:Int) ([]:Bs) true ([]) (Sl.nil:Sl Bs)),(8:Int)))) else((coerce_coercer_at_q (Z1.mk a0 a3 true (0:Int)) a1 a2 (1:Int)).bind fun x15=>(Z31_q x15.1 x15.2.1).bind fun x16=>some (x16.1,x16.2))
theorem Z23_eq (a0:TDoc) (a1:TRef) (a2:Z10) (a3:Z10):Z23 a0 a1 a2 a3=Z23_q a0 a1 a2 a3:=by
 unfold Z23 Z23_q;refine Qs ?_;refine Q.bindO (Z27_eq _ _) fun x6=>?_;refine Q.condO ?_ ?_
 ·refine Q.bindPO (Z116_eq _ _) fun x10 hx_x10=>?_;refine Q.condO ?_ ?_
  ·all_goals rfl
  all_goals rfl
 refine Q.bindO (coerce_coercer_at_eq _ _ _ _) fun x15=>?_;refine Q.bindO (Z31_eq _ _) fun x16=>?_;all_goals rfl
def Z22_q (a0:Z7) (a1:Bs) (a2:TDoc) (a3:(Sl Z4)):Option (Sl Z4):=bif (!a0.FHas) then(some a3) else((Z23_q a2 a0.FType a0.FDefault (Z10.mk (0:Int) (0:Int) ([]:Bs) true ([]) (Sl.nil:Sl Bs))).bind fun x6=>bif (!decide (x6.2=(0:Int))) then((appC 24 a3 (⟨false,[(Z4.mk (23:Int) a1)]⟩:Sl Z4)).bind fun x9=>some x9) else(some a3))
theorem Z22_eq (a0:Z7) (a1:Bs) (a2:TDoc) (a3:(Sl Z4)):Z22 a0 a1 a2 a3=Z22_q a0 a1 a2 a3:=by
 unfold Z22 Z22_q;refine Qs ?_;refine Q.condO ?_ ?_
 ·all_goals rfl
 refine Q.bindO (Z23_eq _ _ _ _) fun x6=>?_;refine Q.condO ?_ ?_
 ·refine Q.bindO rfl fun x9=>?_;all_goals rfl
 all_goals rfl
end Go.Proofs

namespace Go.Proofs
open Go Go.Ab
def Z21_q51 (a0:TDoc) (x20:TDef) (x48:Z5):List Z7->(Sl Z4)->Option ((Sl Z4))
 | [],y53_id3_3=>some y53_id3_3
 | h51::r51,y53_id3_3=>on (h51) fun x59=>(catC x20.FName ([46]:Bs)).bind fun x60=>(catC x60 x48.FName).bind fun x61=>(catC x61 ([40]:Bs)).bind fun x62=>(catC x62 x59.FName).bind fun x63=>(catC x63 ([41]:Bs)).bind fun x64=>(Z22_q x59 x64 a0 y53_id3_3).bind fun x65=>Z21_q51 a0 x20 x48 (r51) x65
theorem Z21_l51_qe {a0:TDoc}{x20:TDef}{s24_40:Nat}{x48:Z5}{k_next_39:Nat->(Sl Z4)->Option (Sl Z4)}  (Kb51:((Sl Z4))->Option (Sl Z4)) (hend:∀(n51:Nat) (s31_52:Nat) (y53_id3_3:(Sl Z4)),Z21_j45 s24_40 k_next_39 y53_id3_3=Kb51 y53_id3_3):∀(n51:Nat) (s31_52:Nat) (y53_id3_3:(Sl Z4)),(0<n51/\x48.FArgs.l.length<s31_52+n51)->Z21_l51 a0 x20 s24_40 x48 k_next_39 n51 s31_52 y53_id3_3=Option.bind (Z21_q51 a0 x20 x48 (x48.FArgs.l.drop s31_52) y53_id3_3) Kb51:=by
 intro n51;induction n51 with
 | zero=>intro s31_52 y53_id3_3 hn; exact absurd hn.1 (by omega)
 | succ n51 ih51 =>
  intro s31_52 y53_id3_3 hn;rw [Z21_l51];by_cases hlt:s31_52<x48.FArgs.l.length
  ·obtain⟨h51,hh51⟩:=Qa hlt;rw [Q.drop_of hh51,Z21_q51];refine QT hlt ?_;refine Q.bindPO hh51 fun x59 hx_x59=>?_;refine Q.bindO rfl fun x60=>?_;refine Q.bindO rfl fun x61=>?_;refine Q.bindO rfl fun x62=>?_;refine Q.bindO rfl fun x63=>?_;refine Q.bindO rfl fun x64=>?_;refine Q.bindO (Z22_eq _ _ _ _) fun x65=>?_;all_goals exact ih51 _ _ ⟨by omega,by omega⟩
  rw [dL (by omega),Z21_q51];refine QF hlt ?_;exact hend n51 s31_52 y53_id3_3
def Z21_q39 (a0:TDoc) (x20:TDef):List Z5->(Sl Z4)->Option ((Sl Z4))
 | [],y41_id3_3=>some y41_id3_3
 | h39::r39,y41_id3_3=>on (h39) fun x48=>Option.bind (Z21_q51 a0 x20 x48 x48.FArgs.l y41_id3_3) fun y53_id3_3=>on (y53_id3_3) fun y46_id3_3=>Z21_q39 a0 x20 (r39) y46_id3_3
theorem Z21_l39_qe {a0:TDoc}{s17_12:Nat}{x20:TDef}{k_next_11:Nat->(Sl Z4)->Option (Sl Z4)}  (Kb39:((Sl Z4))->Option (Sl Z4)) (hend:∀(n39:Nat) (s24_40:Nat) (y41_id3_3:(Sl Z4)),Z21_j21 a0 s17_12 x20 k_next_11 y41_id3_3=Kb39 y41_id3_3):∀(n39:Nat) (s24_40:Nat) (y41_id3_3:(Sl Z4)),(0<n39/\x20.FFields.l.length<s24_40+n39)->Z21_l39 a0 s17_12 x20 k_next_11 n39 s24_40 y41_id3_3=Option.bind (Z21_q39 a0 x20 (x20.FFields.l.drop s24_40) y41_id3_3) Kb39:=by
 intro n39;induction n39 with
 | zero=>intro s24_40 y41_id3_3 hn; exact absurd hn.1 (by omega)
 | succ n39 ih39 =>
  intro s24_40 y41_id3_3 hn;rw [Z21_l39];by_cases hlt:s24_40<x20.FFields.l.length
  ·obtain⟨h39,hh39⟩:=Qa hlt;rw [Q.drop_of hh39,Z21_q39];refine QT hlt ?_;refine Q.bindPO hh39 fun x48 hx_x48=>?_;refine Q.wrapOO fun Kb51 hKb51=>?_;refine Z21_l51_qe  Kb51 ?_ _ _ _ ⟨Nat.succ_pos _,by omega⟩;intro n51 s31_52 y53_id3_3;refine Qe (hKb51 _) ?_;refine Q.wrapPO fun Kj45 hKj45=>?_;have hj45:∀(y46_id3_3:(Sl Z4)),Z21_j45 s24_40 (Z21_l39 a0 s17_12 x20 k_next_11 n39) y46_id3_3=Kj45 y46_id3_3:=by
    intro y46_id3_3;refine Qe (hKj45 _) ?_;unfold Z21_j45;all_goals exact ih39 _ _ ⟨by omega,by omega⟩
   all_goals exact hj45 _
  rw [dL (by omega),Z21_q39];refine QF hlt ?_;exact hend n39 s24_40 y41_id3_3
def Z21_q25 (a0:TDoc) (x20:TDef):List Z7->(Sl Z4)->Option ((Sl Z4))
 | [],y27_id3_3=>some y27_id3_3
 | h25::r25,y27_id3_3=>on (h25) fun x33=>(catC x20.FName ([46]:Bs)).bind fun x34=>(catC x34 x33.FName).bind fun x35=>(Z22_q x33 x35 a0 y27_id3_3).bind fun x36=>Z21_q25 a0 x20 (r25) x36
theorem Z21_l25_qe {a0:TDoc}{s17_12:Nat}{x20:TDef}{k_next_11:Nat->(Sl Z4)->Option (Sl Z4)}  (Kb25:((Sl Z4))->Option (Sl Z4)) (hend:∀(n25:Nat) (s54_26:Nat) (y27_id3_3:(Sl Z4)),Z21_j17 s17_12 k_next_11 y27_id3_3=Kb25 y27_id3_3):∀(n25:Nat) (s54_26:Nat) (y27_id3_3:(Sl Z4)),(0<n25/\x20.FInputs.l.length<s54_26+n25)->Z21_l25 a0 s17_12 x20 k_next_11 n25 s54_26 y27_id3_3=Option.bind (Z21_q25 a0 x20 (x20.FInputs.l.drop s54_26) y27_id3_3) Kb25:=by
 intro n25;induction n25 with
 | zero=>intro s54_26 y27_id3_3 hn; exact absurd hn.1 (by omega)
 | succ n25 ih25 =>
  intro s54_26 y27_id3_3 hn;rw [Z21_l25];by_cases hlt:s54_26<x20.FInputs.l.length
  ·obtain⟨h25,hh25⟩:=Qa hlt;rw [Q.drop_of hh25,Z21_q25];refine QT hlt ?_;refine Q.bindPO hh25 fun x33 hx_x33=>?_;refine Q.bindO rfl fun x34=>?_;refine Q.bindO rfl fun x35=>?_;refine Q.bindO (Z22_eq _ _ _ _) fun x36=>?_;all_goals exact ih25 _ _ ⟨by omega,by omega⟩
  rw [dL (by omega),Z21_q25];refine QF hlt ?_;exact hend n25 s54_26 y27_id3_3
def Z21_q11 (a0:TDoc):List TDef->(Sl Z4)->Option ((Sl Z4))
 | [],y13_id3_3=>some y13_id3_3
 | h11::r11,y13_id3_3=>on (h11) fun x20=>Option.bind (Z21_q39 a0 x20 x20.FFields.l y13_id3_3) fun y41_id3_3=>on (y41_id3_3) fun y22_id3_3=>Option.bind (Z21_q25 a0 x20 x20.FInputs.l y22_id3_3) fun y27_id3_3=>on (y27_id3_3) fun y18_id3_3=>Z21_q11 a0 (r11) y18_id3_3
theorem Z21_l11_qe {a0:TDoc}  (Kb11:((Sl Z4))->Option (Sl Z4)) (hend:∀(n11:Nat) (s17_12:Nat) (y13_id3_3:(Sl Z4)),Z21_j6   y13_id3_3=Kb11 y13_id3_3):∀(n11:Nat) (s17_12:Nat) (y13_id3_3:(Sl Z4)),(0<n11/\a0.FDefs.l.length<s17_12+n11)->Z21_l11 a0 n11 s17_12 y13_id3_3=Option.bind (Z21_q11 a0 (a0.FDefs.l.drop s17_12) y13_id3_3) Kb11:=by
 intro n11;induction n11 with
 | zero=>intro s17_12 y13_id3_3 hn; exact absurd hn.1 (by omega)
 | succ n11 ih11 =>
  intro s17_12 y13_id3_3 hn;rw [Z21_l11];by_cases hlt:s17_12<a0.FDefs.l.length
  ·obtain⟨h11,hh11⟩:=Qa hlt;rw [Q.drop_of hh11,Z21_q11];refine QT hlt ?_;refine Q.bindPO hh11 fun x20 hx_x20=>?_;refine Q.wrapOO fun Kb39 hKb39=>?_;refine Z21_l39_qe  Kb39 ?_ _ _ _ ⟨Nat.succ_pos _,by omega⟩;intro n39 s24_40 y41_id3_3;refine Qe (hKb39 _) ?_;refine Q.wrapPO fun Kj21 hKj21=>?_;have hj21:∀(y22_id3_3:(Sl Z4)),Z21_j21 a0 s17_12 x20 (Z21_l11 a0 n11) y22_id3_3=Kj21 y22_id3_3:=by
    intro y22_id3_3;refine Qe (hKj21 _) ?_;unfold Z21_j21;refine Q.wrapOO fun Kb25 hKb25=>?_;refine Z21_l25_qe  Kb25 ?_ _ _ _ ⟨Nat.succ_pos _,by omega⟩;intro n25 s54_26 y27_id3_3;refine Qe (hKb25 _) ?_;refine Q.wrapPO fun Kj17 hKj17=>?_;have hj17:∀(y18_id3_3:(Sl Z4)),Z21_j17 s17_12 (Z21_l11 a0 n11) y18_id3_3=Kj17 y18_id3_3:=by
     intro y18_id3_3;refine Qe (hKj17 _) ?_;unfold Z21_j17;all_goals exact ih11 _ _ ⟨by omega,by omega⟩
    all_goals exact hj17 _
   all_goals exact hj21 _
  rw [dL (by omega),Z21_q11];refine QF hlt ?_;exact hend n11 s17_12 y13_id3_3
def Z21_q (a0:TDoc):Option (Sl Z4):=Option.bind (Z21_q11 a0 a0.FDefs.l (Sl.nil:Sl Z4)) fun y13_id3_3=>on (y13_id3_3) fun y7_id3_3=>some y7_id3_3
theorem Z21_eq (a0:TDoc):Z21 a0=Z21_q a0:=by
 unfold Z21 Z21_q;refine Qs ?_;refine Q.wrapOO fun Kb11 hKb11=>?_;refine Z21_l11_qe  Kb11 ?_ _ _ _ ⟨Nat.succ_pos _,by omega⟩;intro n11 s17_12 y13_id3_3;refine Qe (hKb11 _) ?_;refine Q.wrapPO fun Kj6 hKj6=>?_;have hj6:∀(y7_id3_3:(Sl Z4)),Z21_j6  y7_id3_3=Kj6 y7_id3_3:=by
  intro y7_id3_3;refine Qe (hKj6 _) ?_;unfold Z21_j6;all_goals rfl
 all_goals exact hj6 _
def Z149_q (a0:TDoc):Option (Sl Z4):=(Z112_q a0 true).bind fun x4=>bif (decide ((0:Int)<((x4.l.length:Nat):Int))) then(some x4) else((Z11_q a0).bind fun x10=>(Z21_q a0).bind fun x11=>(appC 24 x10 x11).bind fun x12=>some x12)
theorem Z149_eq (a0:TDoc):Z149 a0=Z149_q a0:=by
 unfold Z149 Z149_q;refine Qs ?_;refine Q.bindO (Z112_eq _ _) fun x4=>?_;refine Q.condO ?_ ?_
 ·all_goals rfl
 refine Q.bindO (Z11_eq _) fun x10=>?_;refine Q.bindO (Z21_eq _) fun x11=>?_;refine Q.bindO rfl fun x12=>?_;all_goals rfl
def Z110_q11 (a1:(Sl Z4)):List Z4->Nat->Option (Unit ⊕ Bool)
 | [],s5_12=>some (Sum.inl ())
 | h11::r11,s5_12=>on (h11) fun x19=>(a1.l[s5_12]?).bind fun x20=>bif (!(decide (x19.FErr=x20.FErr)&&((x19.FAt==x20.FAt)&&true))) then(some (Sum.inr false)) else(Z110_q11 a1 (r11) (s5_12+1) )
theorem Z110_l11_qe {a0:(Sl Z4)}{a1:(Sl Z4)}  (Kb11:(Unit ⊕ Bool)->Option Bool) (hend:∀(n11:Nat) (s5_12:Nat),Z110_j8   =Kb11 (Sum.inl ())) (hret:∀e:Bool,some e=Kb11 (Sum.inr e)):∀(n11:Nat) (s5_12:Nat),(0<n11/\a0.l.length<s5_12+n11)->Z110_l11 a0 a1 n11 s5_12=Option.bind (Z110_q11 a1 (a0.l.drop s5_12) s5_12 ) Kb11:=by
 intro n11;induction n11 with
 | zero=>intro s5_12 hn; exact absurd hn.1 (by omega)
 | succ n11 ih11 =>
  intro s5_12 hn;rw [Z110_l11];by_cases hlt:s5_12<a0.l.length
  ·obtain⟨h11,hh11⟩:=Qa hlt;rw [Q.drop_of hh11,Z110_q11];refine QT hlt ?_;refine Q.bindPO hh11 fun x19 hx_x19=>?_;refine Q.bindO rfl fun x20=>?_;refine Q.condO ?_ ?_
   ·all_goals exact hret _
   all_goals exact ih11 _ ⟨by omega,by omega⟩
  rw [dL (by omega),Z110_q11];refine QF hlt ?_;exact hend n11 s5_12
def Z110_q (a0:(Sl Z4)) (a1:(Sl Z4)):Option Bool:=bif (!decide (((a0.l.length:Nat):Int)=((a1.l.length:Nat):Int))) then(some false) else(Option.bind (Z110_q11 a1 a0.l 0 ) fun o11=>match o11 with|Sum.inl _=>(on (()) fun _=>some true)|Sum.inr e11=>(some e11))
theorem Z110_eq (a0:(Sl Z4)) (a1:(Sl Z4)):Z110 a0 a1=Z110_q a0 a1:=by
 unfold Z110 Z110_q;refine Qs ?_;refine Q.condO ?_ ?_
 ·all_goals rfl
 refine Q.wrapOO fun Kb11 hKb11=>?_;refine Z110_l11_qe  Kb11 ?_ ?_ _ _ ⟨Nat.succ_pos _,by omega⟩
 ·intro n11 s5_12;refine Qe (hKb11 _) ?_;try dsimp only
  refine Q.wrapPO fun Kj8 hKj8=>?_;have hj8:Z110_j8  =Kj8 ():=by
   refine Qe (hKj8 _) ?_;unfold Z110_j8;all_goals rfl
  all_goals exact hj8
 intro e11;refine Qe (hKb11 _) ?_;try dsimp only
 all_goals rfl
def Z74_q (a0:Bs):Bool:=(((((a0==([73,110,116]:Bs)))||((a0==([83,116,114,105,110,103]:Bs))))||((a0==([66,111,111,108,101,97,110]:Bs))))||((a0==([73,68]:Bs))))
theorem Z74_eq (a0:Bs):Z74 a0=some (Z74_q a0):=by
 unfold Z74 Z74_q;all_goals rfl
def Z40_q (a0:Bs):Option Bool:=guardO ((decide ((2:Int)<=((a0.length:Nat):Int)))) (a0[0]?) (0:UInt8) fun x4=>guardO (((decide ((2:Int)<=((a0.length:Nat):Int)))&&(decide (((x4.toNat:Nat):Int)=(95:Int))))) (a0[1]?) (0:UInt8) fun x5=>some (((decide ((2:Int)<=((a0.length:Nat):Int)))&&(decide (((x4.toNat:Nat):Int)=(95:Int))))&&(decide (((x5.toNat:Nat):Int)=(95:Int))))
theorem Z40_eq (a0:Bs):Z40 a0=Z40_q a0:=by
 unfold Z40 Z40_q;refine Qs ?_;refine Q.guardOO rfl fun x4=>?_;refine Q.guardOO rfl fun x5=>?_;all_goals rfl
def Z75_q (a0:Bs):Option Bool:=on (Z39_q a0) fun x3=>guardO (x3) (Z40_q a0) false fun x4=>some (x3&&(!x4))
theorem Z75_eq (a0:Bs):Z75 a0=Z75_q a0:=by
 unfold Z75 Z75_q;refine Qs ?_;refine Q.bindPO (Z39_eq _) fun x3 hx_x3=>?_;refine Q.guardOO (Z40_eq _) fun x4=>?_;all_goals rfl
def Z84_q (a0:Bs) (a1:Bool) (a2:Bool) (a3:Bs):Option (Sl Z4):=guardO (!a1) (Z75_q a0) false fun x12=>Option.bind (bif (a1||(!x12)) then((appC 24 (Sl.nil:Sl Z4) (⟨false,[(Z4.mk (6:Int) a3)]⟩:Sl Z4)).bind fun x14=>some x14) else(some (Sl.nil:Sl Z4))) fun s9_4=>Option.bind (bif a2 then((appC 24 s9_4 (⟨false,[(Z4.mk (7:Int) a3)]⟩:Sl Z4)).bind fun x10=>some x10) else(some s9_4)) fun s9_6=>some s9_6
theorem Z84_eq (a0:Bs) (a1:Bool) (a2:Bool) (a3:Bs):Z84 a0 a1 a2 a3=Z84_q a0 a1 a2 a3:=by
 unfold Z84 Z84_q;refine Qs ?_;refine Q.guardOO (Z75_eq _) fun x12=>?_;refine Q.wrapOO fun Kj3 hKj3=>?_;have hj3:∀(s9_4:(Sl Z4)),Z84_j3 a2 a3 s9_4=Kj3 s9_4:=by
  intro s9_4;refine Qe (hKj3 _) ?_;unfold Z84_j3;refine Q.wrapOO fun Kj5 hKj5=>?_;have hj5:∀(s9_6:(Sl Z4)),Z84_j5  s9_6=Kj5 s9_6:=by
   intro s9_6;refine Qe (hKj5 _) ?_;unfold Z84_j5;all_goals rfl
  refine Q.condO ?_ ?_
  ·refine Q.bindO rfl fun x10=>?_;all_goals exact hj5 _
  all_goals exact hj5 _
 refine Q.condO ?_ ?_
 ·refine Q.bindO rfl fun x14=>?_;all_goals exact hj3 _
 all_goals exact hj3 _
def Z78_q (a0:TDef):Bool:=on (bif (decide (a0.FKind=(1:Int))) then((decide (a0.FKind=(1:Int)))) else((decide (a0.FKind=(2:Int))))) fun s5_6=>bif s5_6 then((decide (((a0.FFields.l.length:Nat):Int)=(0:Int)))) else(on (bif (decide (a0.FKind=(3:Int))) then((decide (a0.FKind=(3:Int)))) else((decide (a0.FKind=(4:Int))))) fun s12_11=>bif s12_11 then((decide (((a0.FMembers.l.length:Nat):Int)=(0:Int)))) else(bif (decide (a0.FKind=(5:Int))) then((decide (((a0.FInputs.l.length:Nat):Int)=(0:Int)))) else(on (()) fun _=>false)))
theorem Z78_eq (a0:TDef):Z78 a0=some (Z78_q a0):=by
 unfold Z78 Z78_q;refine Q.wrapPP fun Kj5 hKj5=>?_;have hj5:∀(s5_6:Bool),Z78_j5 a0 s5_6=Kj5 s5_6:=by
  intro s5_6;refine Qe (hKj5 _) ?_;unfold Z78_j5;refine Q.condP ?_ ?_
  ·all_goals rfl
  refine Q.wrapPP fun Kj10 hKj10=>?_;have hj10:∀(s12_11:Bool),Z78_j10 a0 s12_11=Kj10 s12_11:=by
   intro s12_11;refine Qe (hKj10 _) ?_;unfold Z78_j10;refine Q.condP ?_ ?_
   ·all_goals rfl
   refine Q.condP ?_ ?_
   ·all_goals rfl
   refine Q.wrapPP fun Kj2 hKj2=>?_;have hj2:Z78_j2  =Kj2 ():=by
    refine Qe (hKj2 _) ?_;unfold Z78_j2;all_goals rfl
   all_goals exact hj2
  refine Q.condP ?_ ?_
  ·all_goals exact hj10 _
  all_goals exact hj10 _
 refine Q.condP ?_ ?_
 ·all_goals exact hj5 _
 all_goals exact hj5 _
def Z70_q6 (a1:Bs):List TDef->Unit ⊕ ((TDef×Bool))
 | []=>Sum.inl ()
 | h6::r6=>on (h6) fun x15=>bif ((x15.FName==a1)) then(on (h6) fun x18=>Sum.inr (x18,true)) else(Z70_q6 a1 (r6) )
theorem Z70_l6_qe {a0:TDoc}{a1:Bs}  (Kb6:(Unit ⊕ ((TDef×Bool)))->Option (TDef×Bool)) (hend:∀(n6:Nat) (s6_7:Nat) (y8_l0:TDef),Z70_j2   y8_l0=Kb6 (Sum.inl ())) (hret:∀e:(TDef×Bool),some e=Kb6 (Sum.inr e)):∀(n6:Nat) (s6_7:Nat) (y8_l0:TDef),(0<n6/\a0.FDefs.l.length<s6_7+n6)->Z70_l6 a0 a1 n6 s6_7 y8_l0=Kb6 (Z70_q6 a1 (a0.FDefs.l.drop s6_7) ):=by
 intro n6;induction n6 with
 | zero=>intro s6_7 y8_l0 hn; exact absurd hn.1 (by omega)
 | succ n6 ih6 =>
  intro s6_7 y8_l0 hn;rw [Z70_l6];by_cases hlt:s6_7<a0.FDefs.l.length
  ·obtain⟨h6,hh6⟩:=Qa hlt;rw [Q.drop_of hh6,Z70_q6];refine QT hlt ?_;refine Q.bindP hh6 fun x15 hx_x15=>?_;refine Q.condP ?_ ?_
   ·refine Q.bindP hh6 fun x18 hx_x18=>?_;all_goals exact hret _
   all_goals exact ih6 _ _ ⟨by omega,by omega⟩
  rw [dL (by omega),Z70_q6];refine QF hlt ?_;exact hend n6 s6_7 y8_l0
def Z70_q (a0:TDoc) (a1:Bs):(TDef×Bool):=on (Z70_q6 a1 a0.FDefs.l ) fun o6=>match o6 with|Sum.inl _=>(on (()) fun _=>((TDef.mk (0:Int) ([]:Bs) (Sl.nil:Sl Bs) (Sl.nil:Sl TDir) (Sl.nil:Sl Z5) (Sl.nil:Sl Z8) (Sl.nil:Sl Z7)),false))|Sum.inr e6=>(e6)
theorem Z70_eq (a0:TDoc) (a1:Bs):Z70 a0 a1=some (Z70_q a0 a1):=by
 unfold Z70 Z70_q;refine Q.wrapPP fun Kb6 hKb6=>?_;refine Z70_l6_qe  Kb6 ?_ ?_ _ _ _ ⟨Nat.succ_pos _,by omega⟩
 ·intro n6 s6_7 y8_l0;refine Qe (hKb6 _) ?_;try dsimp only
  refine Q.wrapPP fun Kj2 hKj2=>?_;have hj2:∀(y3_l0:TDef),Z70_j2  y3_l0=Kj2 ():=by
   intro y3_l0;refine Qe (hKj2 _) ?_;unfold Z70_j2;all_goals rfl
  all_goals exact hj2 _
 intro e6;refine Qe (hKb6 _) ?_;try dsimp only
 all_goals rfl
def Z80_q5 (a1:Bs):List Bs->Unit ⊕ Bool
 | []=>Sum.inl ()
 | h5::r5=>on (h5) fun x13=>bif ((x13==a1)) then(Sum.inr true) else(Z80_q5 a1 (r5) )
theorem Z80_l5_qe {a0:(Sl Bs)}{a1:Bs}  (Kb5:(Unit ⊕ Bool)->Option Bool) (hend:∀(n5:Nat) (s5_6:Nat),Z80_j2   =Kb5 (Sum.inl ())) (hret:∀e:Bool,some e=Kb5 (Sum.inr e)):∀(n5:Nat) (s5_6:Nat),(0<n5/\a0.l.length<s5_6+n5)->Z80_l5 a0 a1 n5 s5_6=Kb5 (Z80_q5 a1 (a0.l.drop s5_6) ):=by
 intro n5;induction n5 with
 | zero=>intro s5_6 hn; exact absurd hn.1 (by omega)
 | succ n5 ih5 =>
  intro s5_6 hn;rw [Z80_l5];by_cases hlt:s5_6<a0.l.length
  ·obtain⟨h5,hh5⟩:=Qa hlt;rw [Q.drop_of hh5,Z80_q5];refine QT hlt ?_;refine Q.bindP hh5 fun x13 hx_x13=>?_;refine Q.condP ?_ ?_
   ·all_goals exact hret _
   all_goals exact ih5 _ ⟨by omega,by omega⟩
  rw [dL (by omega),Z80_q5];refine QF hlt ?_;exact hend n5 s5_6
def Z80_q (a0:(Sl Bs)) (a1:Bs):Bool:=on (Z80_q5 a1 a0.l ) fun o5=>match o5 with|Sum.inl _=>(on (()) fun _=>false)|Sum.inr e5=>(e5)
theorem Z80_eq (a0:(Sl Bs)) (a1:Bs):Z80 a0 a1=some (Z80_q a0 a1):=by
 unfold Z80 Z80_q;refine Q.wrapPP fun Kb5 hKb5=>?_;refine Z80_l5_qe  Kb5 ?_ ?_ _ _ ⟨Nat.succ_pos _,by omega⟩
 ·intro n5 s5_6;refine Qe (hKb5 _) ?_;try dsimp only
  refine Q.wrapPP fun Kj2 hKj2=>?_;have hj2:Z80_j2  =Kj2 ():=by
   refine Qe (hKj2 _) ?_;unfold Z80_j2;all_goals rfl
  all_goals exact hj2
 intro e5;refine Qe (hKb5 _) ?_;try dsimp only
 all_goals rfl
def Z77_q (a0:TRef):Option Bool:=guardO ((decide (((a0.FWraps.l.length:Nat):Int)=(1:Int)))) (a0.FWraps.l[0]?) (0:Int) fun x4=>some ((decide (((a0.FWraps.l.length:Nat):Int)=(1:Int)))&&(decide (x4=(1:Int))))
theorem Z77_eq (a0:TRef):Z77 a0=Z77_q a0:=by
 unfold Z77 Z77_q;refine Qs ?_;refine Q.guardOO rfl fun x4=>?_;all_goals rfl
def Z85_q6 (a0:TDoc) (a2:Bs):List Z7->(Sl Bs)->Option ((Sl Bs))
 | [],s3_7=>some s3_7
 | h6::r6,s3_7=>on (h6) fun x16=>on (Z70_q a0 x16.FType.FName) fun x18=>(Z77_q x16.FType).bind fun x20=>on (bif (x20&&(((x16.FType.FName==a2))||(x18.2&&(decide (x18.1.FKind=(5:Int)))))) then Z80_q s3_7 x16.FType.FName else false) fun x21=>Option.bind (bif ((x20&&(((x16.FType.FName==a2))||(x18.2&&(decide (x18.1.FKind=(5:Int))))))&&(!x21)) then((appC 16 s3_7 (⟨false,[x16.FType.FName]⟩:Sl Bs)).bind fun x23=>some x23) else(some s3_7)) fun s3_14=>Z85_q6 a0 a2 (r6) s3_14
theorem Z85_l6_qe {a0:TDoc}{a1:TDef}{a2:Bs}  (Kb6:((Sl Bs))->Option (Sl Bs)) (hend:∀(n6:Nat) (s3_7:(Sl Bs)) (s9_8:Nat),Z85_j2   s3_7=Kb6 s3_7):∀(n6:Nat) (s3_7:(Sl Bs)) (s9_8:Nat),(0<n6/\a1.FInputs.l.length<s9_8+n6)->Z85_l6 a0 a1 a2 n6 s3_7 s9_8=Option.bind (Z85_q6 a0 a2 (a1.FInputs.l.drop s9_8) s3_7) Kb6:=by
 intro n6;induction n6 with
 | zero=>intro s3_7 s9_8 hn; exact absurd hn.1 (by omega)
 | succ n6 ih6 =>
  intro s3_7 s9_8 hn;rw [Z85_l6];by_cases hlt:s9_8<a1.FInputs.l.length
  ·obtain⟨h6,hh6⟩:=Qa hlt;rw [Q.drop_of hh6,Z85_q6];refine QT hlt ?_;refine Q.bindPO hh6 fun x16 hx_x16=>?_;refine Q.bindPO (Z70_eq _ _) fun x18 hx_x18=>?_;refine Q.bindO (Z77_eq _) fun x20=>?_;refine Q.guardPO (Z80_eq _ _) fun x21 hx_x21=>?_;refine Q.wrapOO fun Kj13 hKj13=>?_;have hj13:∀(s3_14:(Sl Bs)),Z85_j13 s9_8 (Z85_l6 a0 a1 a2 n6) s3_14=Kj13 s3_14:=by
    intro s3_14;refine Qe (hKj13 _) ?_;unfold Z85_j13;all_goals exact ih6 _ _ ⟨by omega,by omega⟩
   refine Q.condO ?_ ?_
   ·refine Q.bindO rfl fun x23=>?_;all_goals exact hj13 _
   all_goals exact hj13 _
  rw [dL (by omega),Z85_q6];refine QF hlt ?_;exact hend n6 s3_7 s9_8
def Z85_q (a0:TDoc) (a1:TDef) (a2:Bs) (a3:(Sl Bs)):Option (Sl Bs):=Option.bind (Z85_q6 a0 a2 a1.FInputs.l a3) fun s3_7=>on (s3_7) fun s3_3=>some s3_3
theorem Z85_eq (a0:TDoc) (a1:TDef) (a2:Bs) (a3:(Sl Bs)):Z85 a0 a1 a2 a3=Z85_q a0 a1 a2 a3:=by
 unfold Z85 Z85_q;refine Qs ?_;refine Q.wrapOO fun Kb6 hKb6=>?_;refine Z85_l6_qe  Kb6 ?_ _ _ _ ⟨Nat.succ_pos _,by omega⟩;intro n6 s3_7 s9_8;refine Qe (hKb6 _) ?_;refine Q.wrapPO fun Kj2 hKj2=>?_;have hj2:∀(s3_3:(Sl Bs)),Z85_j2  s3_3=Kj2 s3_3:=by
  intro s3_3;refine Qe (hKj2 _) ?_;unfold Z85_j2;all_goals rfl
 all_goals exact hj2 _
def Z86_q (a0:TDoc) (a1:Int):Option (Sl Z4):=Z86 a0 a1
theorem Z86_eq (a0:TDoc) (a1:Int):Z86 a0 a1=Z86_q a0 a1:=rfl
def Z82_q (a0:TDoc) (a1:Bs):Bool:=on (Z70_q a0 a1) fun x3=>on (Z74_q a1) fun x5=>(x5||x3.2)
theorem Z82_eq (a0:TDoc) (a1:Bs):Z82 a0 a1=some (Z82_q a0 a1):=by
 unfold Z82 Z82_q;refine Q.bindP (Z70_eq _ _) fun x3 hx_x3=>?_;refine Q.bindP (Z74_eq _) fun x5 hx_x5=>?_;all_goals rfl
def Z71_q6 (a1:Bs):List Z7->Unit ⊕ ((Z7×Bool))
 | []=>Sum.inl ()
 | h6::r6=>on (h6) fun x15=>bif ((x15.FName==a1)) then(on (h6) fun x18=>Sum.inr (x18,true)) else(Z71_q6 a1 (r6) )
theorem Z71_l6_qe {a0:(Sl Z7)}{a1:Bs}  (Kb6:(Unit ⊕ ((Z7×Bool)))->Option (Z7×Bool)) (hend:∀(n6:Nat) (s6_7:Nat) (y8_l0:Z7),Z71_j2   y8_l0=Kb6 (Sum.inl ())) (hret:∀e:(Z7×Bool),some e=Kb6 (Sum.inr e)):∀(n6:Nat) (s6_7:Nat) (y8_l0:Z7),(0<n6/\a0.l.length<s6_7+n6)->Z71_l6 a0 a1 n6 s6_7 y8_l0=Kb6 (Z71_q6 a1 (a0.l.drop s6_7) ):=by
 intro n6;induction n6 with
 | zero=>intro s6_7 y8_l0 hn; exact absurd hn.1 (by omega)
 | succ n6 ih6 =>
  intro s6_7 y8_l0 hn;rw [Z71_l6];by_cases hlt:s6_7<a0.l.length
  ·obtain⟨h6,hh6⟩:=Qa hlt;rw [Q.drop_of hh6,Z71_q6];refine QT hlt ?_;refine Q.bindP hh6 fun x15 hx_x15=>?_;refine Q.condP ?_ ?_
   ·refine Q.bindP hh6 fun x18 hx_x18=>?_;all_goals exact hret _
   all_goals exact ih6 _ _ ⟨by omega,by omega⟩
  rw [dL (by omega),Z71_q6];refine QF hlt ?_;exact hend n6 s6_7 y8_l0
def Z71_q (a0:(Sl Z7)) (a1:Bs):(Z7×Bool):=on (Z71_q6 a1 a0.l ) fun o6=>match o6 with|Sum.inl _=>(on (()) fun _=>((Z7.mk ([]:Bs) TRef.zero false Z10.zero (Sl.nil:Sl TDir)),false))|Sum.inr e6=>(e6)
theorem Z71_eq (a0:(Sl Z7)) (a1:Bs):Z71 a0 a1=some (Z71_q a0 a1):=by
 unfold Z71 Z71_q;refine Q.wrapPP fun Kb6 hKb6=>?_;refine Z71_l6_qe  Kb6 ?_ ?_ _ _ _ ⟨Nat.succ_pos _,by omega⟩
 ·intro n6 s6_7 y8_l0;refine Qe (hKb6 _) ?_;try dsimp only
  refine Q.wrapPP fun Kj2 hKj2=>?_;have hj2:∀(y3_l0:Z7),Z71_j2  y3_l0=Kj2 ():=by
   intro y3_l0;refine Qe (hKj2 _) ?_;unfold Z71_j2;all_goals rfl
  all_goals exact hj2 _
 intro e6;refine Qe (hKb6 _) ?_;try dsimp only
 all_goals rfl
def Z73_q (a0:TDoc) (a1:Bs):Bool:=on (Z70_q a0 a1) fun x3=>on (Z74_q a1) fun x5=>(x5||(x3.2&&(decide (x3.1.FKind=(4:Int)))))
theorem Z73_eq (a0:TDoc) (a1:Bs):Z73 a0 a1=some (Z73_q a0 a1):=by
 unfold Z73 Z73_q;refine Q.bindP (Z70_eq _ _) fun x3 hx_x3=>?_;refine Q.bindP (Z74_eq _) fun x5 hx_x5=>?_;all_goals rfl
def Z72_q (a0:TDoc) (a1:Bs):Bool:=on (Z70_q a0 a1) fun x3=>on (Z73_q a0 a1) fun x5=>(x5||(x3.2&&(decide (x3.1.FKind=(5:Int)))))
theorem Z72_eq (a0:TDoc) (a1:Bs):Z72 a0 a1=some (Z72_q a0 a1):=by
 unfold Z72 Z72_q;refine Q.bindP (Z70_eq _ _) fun x3 hx_x3=>?_;refine Q.bindP (Z73_eq _ _) fun x5 hx_x5=>?_;all_goals rfl
def Z81_q7 (a0:TDoc) (a1:(Sl Z7)) (a2:Bs) (a3:Bs):List Z7->Nat->(Sl Z4)->Option ((Sl Z4))
 | [],s10_9,s9_8=>some s9_8
 | h7::r7,s10_9,s9_8=>on (h7) fun x17=>(catC a2 x17.FName).bind fun x18=>(catC x18 a3).bind fun x19=>on ((⟨a1.nl,a1.l.take s10_9⟩:Sl Z7)) fun x21=>on (h7) fun x22=>on (Z71_q x21 x22.FName) fun x23=>on (h7) fun x25=>(Z84_q x25.FName false x23.2 x19).bind fun x26=>(appC 24 s9_8 x26).bind fun x27=>on (h7) fun x29=>on (Z82_q a0 x29.FType.FName) fun x30=>Option.bind (bif (!x30) then((appC 24 x27 (⟨false,[(Z4.mk (8:Int) x19)]⟩:Sl Z4)).bind fun x32=>some x32) else(on (h7) fun x34=>on (Z72_q a0 x34.FType.FName) fun x35=>bif (!x35) then((appC 24 x27 (⟨false,[(Z4.mk (10:Int) x19)]⟩:Sl Z4)).bind fun x37=>some x37) else(some x27))) fun s9_15=>Z81_q7 a0 a1 a2 a3 (r7) (s10_9+1) s9_15
theorem Z81_l7_qe {a0:TDoc}{a1:(Sl Z7)}{a2:Bs}{a3:Bs}  (Kb7:((Sl Z4))->Option (Sl Z4)) (hend:∀(n7:Nat) (s9_8:(Sl Z4)) (s10_9:Nat),Z81_j3   s9_8=Kb7 s9_8):∀(n7:Nat) (s9_8:(Sl Z4)) (s10_9:Nat),(0<n7/\a1.l.length<s10_9+n7)->Z81_l7 a0 a1 a2 a3 n7 s9_8 s10_9=Option.bind (Z81_q7 a0 a1 a2 a3 (a1.l.drop s10_9) s10_9 s9_8) Kb7:=by
 intro n7;induction n7 with
 | zero=>intro s9_8 s10_9 hn; exact absurd hn.1 (by omega)
 | succ n7 ih7 =>
  intro s9_8 s10_9 hn;rw [Z81_l7];by_cases hlt:s10_9<a1.l.length
  ·obtain⟨h7,hh7⟩:=Qa hlt;rw [Q.drop_of hh7,Z81_q7];refine QT hlt ?_;refine Q.bindPO hh7 fun x17 hx_x17=>?_;refine Q.bindO rfl fun x18=>?_;refine Q.bindO rfl fun x19=>?_;refine Q.bindPO (Q.partC_take (by omega)) fun x21 hx_x21=>?_;refine Q.bindPO hh7 fun x22 hx_x22=>?_;refine Q.bindPO (Z71_eq _ _) fun x23 hx_x23=>?_;refine Q.bindPO hh7 fun x25 hx_x25=>?_;refine Q.bindO (Z84_eq _ _ _ _) fun x26=>?_
   refine Q.bindO rfl fun x27=>?_;refine Q.bindPO hh7 fun x29 hx_x29=>?_;refine Q.bindPO (Z82_eq _ _) fun x30 hx_x30=>?_;refine Q.wrapOO fun Kj14 hKj14=>?_;have hj14:∀(s9_15:(Sl Z4)),Z81_j14 s10_9 (Z81_l7 a0 a1 a2 a3 n7) s9_15=Kj14 s9_15:=by
    intro s9_15;refine Qe (hKj14 _) ?_;unfold Z81_j14;all_goals exact ih7 _ _ ⟨by omega,by omega⟩
   refine Q.condO ?_ ?_
   ·refine Q.bindO rfl fun x32=>?_;all_goals exact hj14 _
   refine Q.bindPO hh7 fun x34 hx_x34=>?_;refine Q.bindPO (Z72_eq _ _) fun x35 hx_x35=>?_;refine Q.condO ?_ ?_
   ·refine Q.bindO rfl fun x37=>?_;all_goals exact hj14 _
   all_goals exact hj14 _
  rw [dL (by omega),Z81_q7];refine QF hlt ?_;exact hend n7 s9_8 s10_9
def Z81_q (a0:TDoc) (a1:(Sl Z7)) (a2:Bs) (a3:Bs):Option (Sl Z4):=Option.bind (Z81_q7 a0 a1 a2 a3 a1.l 0 (Sl.nil:Sl Z4)) fun s9_8=>on (s9_8) fun s9_4=>some s9_4
theorem Z81_eq (a0:TDoc) (a1:(Sl Z7)) (a2:Bs) (a3:Bs):Z81 a0 a1 a2 a3=Z81_q a0 a1 a2 a3:=by
 unfold Z81 Z81_q;refine Qs ?_;refine Q.wrapOO fun Kb7 hKb7=>?_;refine Z81_l7_qe  Kb7 ?_ _ _ _ ⟨Nat.succ_pos _,by omega⟩;intro n7 s9_8 s10_9;refine Qe (hKb7 _) ?_;refine Q.wrapPO fun Kj3 hKj3=>?_;have hj3:∀(s9_4:(Sl Z4)),Z81_j3  s9_4=Kj3 s9_4:=by
  intro s9_4;refine Qe (hKj3 _) ?_;unfold Z81_j3;all_goals rfl
 all_goals exact hj3 _
def Z69_q6 (a1:Bs):List Z5->Unit ⊕ ((Z5×Bool))
 | []=>Sum.inl ()
 | h6::r6=>on (h6) fun x15=>bif ((x15.FName==a1)) then(on (h6) fun x18=>Sum.inr (x18,true)) else(Z69_q6 a1 (r6) )
theorem Z69_l6_qe {a0:TDef}{a1:Bs}  (Kb6:(Unit ⊕ ((Z5×Bool)))->Option (Z5×Bool)) (hend:∀(n6:Nat) (s6_7:Nat) (y8_l0:Z5),Z69_j2   y8_l0=Kb6 (Sum.inl ())) (hret:∀e:(Z5×Bool),some e=Kb6 (Sum.inr e)):∀(n6:Nat) (s6_7:Nat) (y8_l0:Z5),(0<n6/\a0.FFields.l.length<s6_7+n6)->Z69_l6 a0 a1 n6 s6_7 y8_l0=Kb6 (Z69_q6 a1 (a0.FFields.l.drop s6_7) ):=by
 intro n6;induction n6 with
 | zero=>intro s6_7 y8_l0 hn; exact absurd hn.1 (by omega)
 | succ n6 ih6 =>
  intro s6_7 y8_l0 hn;rw [Z69_l6];by_cases hlt:s6_7<a0.FFields.l.length
  ·obtain⟨h6,hh6⟩:=Qa hlt;rw [Q.drop_of hh6,Z69_q6];refine QT hlt ?_;refine Q.bindP hh6 fun x15 hx_x15=>?_;refine Q.condP ?_ ?_
   ·refine Q.bindP hh6 fun x18 hx_x18=>?_;all_goals exact hret _
   all_goals exact ih6 _ _ ⟨by omega,by omega⟩
  rw [dL (by omega),Z69_q6];refine QF hlt ?_;exact hend n6 s6_7 y8_l0
def Z69_q (a0:TDef) (a1:Bs):(Z5×Bool):=on (Z69_q6 a1 a0.FFields.l ) fun o6=>match o6 with|Sum.inl _=>(on (()) fun _=>((Z5.mk ([]:Bs) (Sl.nil:Sl Z7) TRef.zero (Sl.nil:Sl TDir)),false))|Sum.inr e6=>(e6)
theorem Z69_eq (a0:TDef) (a1:Bs):Z69 a0 a1=some (Z69_q a0 a1):=by
 unfold Z69 Z69_q;refine Q.wrapPP fun Kb6 hKb6=>?_;refine Z69_l6_qe  Kb6 ?_ ?_ _ _ _ ⟨Nat.succ_pos _,by omega⟩
 ·intro n6 s6_7 y8_l0;refine Qe (hKb6 _) ?_;try dsimp only
  refine Q.wrapPP fun Kj2 hKj2=>?_;have hj2:∀(y3_l0:Z5),Z69_j2  y3_l0=Kj2 ():=by
   intro y3_l0;refine Qe (hKj2 _) ?_;unfold Z69_j2;all_goals rfl
  all_goals exact hj2 _
 intro e6;refine Qe (hKb6 _) ?_;try dsimp only
 all_goals rfl
def Z79_q7 (a0:TDoc) (a1:TDef):List Z5->Nat->(Sl Z4)->Option ((Sl Z4))
 | [],s6_9,s5_8=>some s5_8
 | h7::r7,s6_9,s5_8=>on (h7) fun x17=>(catC a1.FName ([46]:Bs)).bind fun x19=>(catC x19 x17.FName).bind fun x20=>on ((⟨a1.FFields.nl,a1.FFields.l.take s6_9⟩:Sl Z5)) fun x22=>on (Z69_q (TDef.mk (0:Int) ([]:Bs) (Sl.nil:Sl Bs) (Sl.nil:Sl TDir) x22 (Sl.nil:Sl Z8) (Sl.nil:Sl Z7)) x17.FName) fun x23=>(Z84_q x17.FName false x23.2 x20).bind fun x25=>(appC 24 s5_8 x25).bind fun x26=>on (Z70_q a0 x17.FType.FName) fun x28=>on (Z82_q a0 x17.FType.FName) fun x35=>Option.bind (bif (!x35) then((appC 24 x26 (⟨false,[(Z4.mk (8:Int) x20)]⟩:Sl Z4)).bind fun x37=>some x37) else(on (Z74_q x17.FType.FName) fun x39=>bif (((!x39)&&x28.2)&&(decide (x28.1.FKind=(5:Int)))) then((appC 24 x26 (⟨false,[(Z4.mk (10:Int) x20)]⟩:Sl Z4)).bind fun x41=>some x41) else(some x26))) fun s5_30=>(catC x20 ([40]:Bs)).bind fun x31=>(Z81_q a0 x17.FArgs x31 ([41]:Bs)).bind fun x32=>(appC 24 s5_30 x32).bind fun x33=>on (x33) fun s5_15=>Z79_q7 a0 a1 (r7) (s6_9+1) s5_15
theorem Z79_l7_qe {a0:TDoc}{a1:TDef}  (Kb7:((Sl Z4))->Option (Sl Z4)) (hend:∀(n7:Nat) (s5_8:(Sl Z4)) (s6_9:Nat),Z79_j3   s5_8=Kb7 s5_8):∀(n7:Nat) (s5_8:(Sl Z4)) (s6_9:Nat),(0<n7/\a1.FFields.l.length<s6_9+n7)->Z79_l7 a0 a1 n7 s5_8 s6_9=Option.bind (Z79_q7 a0 a1 (a1.FFields.l.drop s6_9) s6_9 s5_8) Kb7:=by
 intro n7;induction n7 with
 | zero=>intro s5_8 s6_9 hn; exact absurd hn.1 (by omega)
 | succ n7 ih7 =>
  intro s5_8 s6_9 hn;rw [Z79_l7];by_cases hlt:s6_9<a1.FFields.l.length
  ·obtain⟨h7,hh7⟩:=Qa hlt;rw [Q.drop_of hh7,Z79_q7];refine QT hlt ?_;refine Q.bindPO hh7 fun x17 hx_x17=>?_;refine Q.bindO rfl fun x19=>?_;refine Q.bindO rfl fun x20=>?_;refine Q.bindPO (Q.partC_take (by omega)) fun x22 hx_x22=>?_;refine Q.bindPO (Z69_eq _ _) fun x23 hx_x23=>?_;refine Q.bindO (Z84_eq _ _ _ _) fun x25=>?_;refine Q.bindO rfl fun x26=>?_;refine Q.bindPO (Z70_eq _ _) fun x28 hx_x28=>?_
   refine Q.bindPO (Z82_eq _ _) fun x35 hx_x35=>?_;refine Q.wrapOO fun Kj29 hKj29=>?_;have hj29:∀(s5_30:(Sl Z4)),Z79_j29 a0 s6_9 x17 x20 (Z79_l7 a0 a1 n7) s5_30=Kj29 s5_30:=by
    intro s5_30;refine Qe (hKj29 _) ?_;unfold Z79_j29;refine Q.bindO rfl fun x31=>?_;refine Q.bindO (Z81_eq _ _ _ _) fun x32=>?_;refine Q.bindO rfl fun x33=>?_;refine Q.wrapPO fun Kj14 hKj14=>?_;have hj14:∀(s5_15:(Sl Z4)),Z79_j14 s6_9 (Z79_l7 a0 a1 n7) s5_15=Kj14 s5_15:=by
     intro s5_15;refine Qe (hKj14 _) ?_;unfold Z79_j14;all_goals exact ih7 _ _ ⟨by omega,by omega⟩
    all_goals exact hj14 _
   refine Q.condO ?_ ?_
   ·refine Q.bindO rfl fun x37=>?_;all_goals exact hj29 _
   refine Q.bindPO (Z74_eq _) fun x39 hx_x39=>?_;refine Q.condO ?_ ?_
   ·refine Q.bindO rfl fun x41=>?_;all_goals exact hj29 _
   all_goals exact hj29 _
  rw [dL (by omega),Z79_q7];refine QF hlt ?_;exact hend n7 s5_8 s6_9
def Z79_q (a0:TDoc) (a1:TDef):Option (Sl Z4):=Option.bind (Z79_q7 a0 a1 a1.FFields.l 0 (Sl.nil:Sl Z4)) fun s5_8=>on (s5_8) fun s5_4=>some s5_4
theorem Z79_eq (a0:TDoc) (a1:TDef):Z79 a0 a1=Z79_q a0 a1:=by
 unfold Z79 Z79_q;refine Qs ?_;refine Q.wrapOO fun Kb7 hKb7=>?_;refine Z79_l7_qe  Kb7 ?_ _ _ _ ⟨Nat.succ_pos _,by omega⟩;intro n7 s5_8 s6_9;refine Qe (hKb7 _) ?_;refine Q.wrapPO fun Kj3 hKj3=>?_;have hj3:∀(s5_4:(Sl Z4)),Z79_j3  s5_4=Kj3 s5_4:=by
  intro s5_4;refine Qe (hKj3 _) ?_;unfold Z79_j3;all_goals rfl
 all_goals exact hj3 _
end Go.Proofs

namespace Go.Proofs
open Go Go.Ab
def Z83_q26 (a0:TDef) (x17:Z8):Nat->Nat->Bool->Option (Bool)
 | 0,s7_28,s6_27=>some s6_27
 | r26+1,s7_28,s6_27=>guardO (!s6_27) (a0.FMembers.l[s7_28]?) Z8.zero fun x33=>Z83_q26 a0 x17 (r26) (s7_28+1) (s6_27||((x33.FName==x17.FName)))
theorem Z83_l26_qe {a0:TDef}{s3_8:(Sl Z4)}{s4_9:Nat}{x17:Z8}{k_next_7:(Sl Z4)->Nat->Option (Sl Z4)}  (Kb26:(Bool)->Option (Sl Z4)) (hend:∀(n26:Nat) (s6_27:Bool) (s7_28:Nat),Z83_j19 a0 s3_8 s4_9 x17 k_next_7 s6_27=Kb26 s6_27):∀(n26:Nat) (s6_27:Bool) (s7_28:Nat),(0<n26/\s4_9<s7_28+n26)->Z83_l26 a0 s3_8 s4_9 x17 k_next_7 n26 s6_27 s7_28=Option.bind (Z83_q26 a0 x17 (s4_9-s7_28) s7_28 s6_27) Kb26:=by
 intro n26;induction n26 with
 | zero=>intro s6_27 s7_28 hn; exact absurd hn.1 (by omega)
 | succ n26 ih26 =>
  intro s6_27 s7_28 hn;rw [Z83_l26];by_cases hlt:s7_28<s4_9
  ·rw [show s4_9-s7_28=(s4_9-(s7_28+1))+1 by omega,Z83_q26];refine QT hlt ?_;refine Q.guardOO rfl fun x33=>?_;all_goals exact ih26 _ _ ⟨by omega,by omega⟩
  rw [show s4_9-s7_28=0 by omega,Z83_q26];refine QF hlt ?_;exact hend n26 s6_27 s7_28
def Z83_q7 (a0:TDef):List Z8->Nat->(Sl Z4)->Option ((Sl Z4))
 | [],s4_9,s3_8=>some s3_8
 | h7::r7,s4_9,s3_8=>on (h7) fun x17=>Option.bind (Z83_q26 a0 x17 s4_9 0 false) fun s6_27=>on (s6_27) fun s6_20=>(catC a0.FName ([46]:Bs)).bind fun x21=>(catC x21 x17.FName).bind fun x22=>(Z84_q x17.FName ((((x17.FName==([116,114,117,101]:Bs)))||((x17.FName==([102,97,108,115,101]:Bs))))||((x17.FName==([110,117,108,108]:Bs)))) s6_20 x22).bind fun x23=>(appC 24 s3_8 x23).bind fun x24=>on (x24) fun s3_15=>Z83_q7 a0 (r7) (s4_9+1) s3_15
theorem Z83_l7_qe {a0:TDef}  (Kb7:((Sl Z4))->Option (Sl Z4)) (hend:∀(n7:Nat) (s3_8:(Sl Z4)) (s4_9:Nat),Z83_j3   s3_8=Kb7 s3_8):∀(n7:Nat) (s3_8:(Sl Z4)) (s4_9:Nat),(0<n7/\a0.FMembers.l.length<s4_9+n7)->Z83_l7 a0 n7 s3_8 s4_9=Option.bind (Z83_q7 a0 (a0.FMembers.l.drop s4_9) s4_9 s3_8) Kb7:=by
 intro n7;induction n7 with
 | zero=>intro s3_8 s4_9 hn; exact absurd hn.1 (by omega)
 | succ n7 ih7 =>
  intro s3_8 s4_9 hn;rw [Z83_l7];by_cases hlt:s4_9<a0.FMembers.l.length
  ·obtain⟨h7,hh7⟩:=Qa hlt;rw [Q.drop_of hh7,Z83_q7];refine QT hlt ?_;refine Q.bindPO hh7 fun x17 hx_x17=>?_;refine Q.wrapOO fun Kb26 hKb26=>?_;refine Z83_l26_qe  Kb26 ?_ _ _ _ ⟨Nat.succ_pos _,by omega⟩;intro n26 s6_27 s7_28;refine Qe (hKb26 _) ?_;refine Q.wrapPO fun Kj19 hKj19=>?_;have hj19:∀(s6_20:Bool),Z83_j19 a0 s3_8 s4_9 x17 (Z83_l7 a0 n7) s6_20=Kj19 s6_20:=by
    intro s6_20;refine Qe (hKj19 _) ?_;unfold Z83_j19;refine Q.bindO rfl fun x21=>?_;refine Q.bindO rfl fun x22=>?_;refine Q.bindO (Z84_eq _ _ _ _) fun x23=>?_;refine Q.bindO rfl fun x24=>?_;refine Q.wrapPO fun Kj14 hKj14=>?_;have hj14:∀(s3_15:(Sl Z4)),Z83_j14 s4_9 (Z83_l7 a0 n7) s3_15=Kj14 s3_15:=by
     intro s3_15;refine Qe (hKj14 _) ?_;unfold Z83_j14;all_goals exact ih7 _ _ ⟨by omega,by omega⟩
    all_goals exact hj14 _
   all_goals exact hj19 _
  rw [dL (by omega),Z83_q7];refine QF hlt ?_;exact hend n7 s3_8 s4_9
def Z83_q (a0:TDef):Option (Sl Z4):=Option.bind (Z83_q7 a0 a0.FMembers.l 0 (Sl.nil:Sl Z4)) fun s3_8=>on (s3_8) fun s3_4=>some s3_4
theorem Z83_eq (a0:TDef):Z83 a0=Z83_q a0:=by
 unfold Z83 Z83_q;refine Qs ?_;refine Q.wrapOO fun Kb7 hKb7=>?_;refine Z83_l7_qe  Kb7 ?_ _ _ _ ⟨Nat.succ_pos _,by omega⟩;intro n7 s3_8 s4_9;refine Qe (hKb7 _) ?_;refine Q.wrapPO fun Kj3 hKj3=>?_;have hj3:∀(s3_4:(Sl Z4)),Z83_j3  s3_4=Kj3 s3_4:=by
  intro s3_4;refine Qe (hKj3 _) ?_;unfold Z83_j3;all_goals rfl
 all_goals exact hj3 _
def Z68_q14 (a0:TDoc):List TDef->Nat->(Sl Z4)->Option ((Sl Z4))
 | [],s6_16,s5_15=>some s5_15
 | h14::r14,s6_16,s5_15=>on (h14) fun x24=>(Z86_q a0 ((s6_16:Nat):Int)).bind fun x26=>(appC 24 s5_15 x26).bind fun x27=>on (bif (decide (x24.FKind=(1:Int))) then((decide (x24.FKind=(1:Int)))) else((decide (x24.FKind=(2:Int))))) fun s29_30=>Option.bind (bif s29_30 then((Z79_q a0 x24).bind fun x32=>(appC 24 x27 x32).bind fun x33=>some x33) else(bif (decide (x24.FKind=(4:Int))) then((Z83_q x24).bind fun x36=>(appC 24 x27 x36).bind fun x37=>some x37) else(bif (decide (x24.FKind=(5:Int))) then((catC x24.FName ([46]:Bs)).bind fun x40=>(Z81_q a0 x24.FInputs x40 ([]:Bs)).bind fun x41=>(appC 24 x27 x41).bind fun x42=>some x42) else(some x27)))) fun s5_22=>Z68_q14 a0 (r14) (s6_16+1) s5_22
theorem Z68_l14_qe {a0:TDoc}{a1:Bool}  (Kb14:((Sl Z4))->Option (Sl Z4)) (hend:∀(n14:Nat) (s5_15:(Sl Z4)) (s6_16:Nat),Z68_j3 a0 a1  s5_15=Kb14 s5_15):∀(n14:Nat) (s5_15:(Sl Z4)) (s6_16:Nat),(0<n14/\a0.FDefs.l.length<s6_16+n14)->Z68_l14 a0 a1 n14 s5_15 s6_16=Option.bind (Z68_q14 a0 (a0.FDefs.l.drop s6_16) s6_16 s5_15) Kb14:=by
 intro n14;induction n14 with
 | zero=>intro s5_15 s6_16 hn; exact absurd hn.1 (by omega)
 | succ n14 ih14 =>
  intro s5_15 s6_16 hn;rw [Z68_l14];by_cases hlt:s6_16<a0.FDefs.l.length
  ·obtain⟨h14,hh14⟩:=Qa hlt;rw [Q.drop_of hh14,Z68_q14];refine QT hlt ?_;refine Q.bindPO hh14 fun x24 hx_x24=>?_;refine Q.bindO (Z86_eq _ _) fun x26=>?_;refine Q.bindO rfl fun x27=>?_;refine Q.wrapPO fun Kj29 hKj29=>?_;have hj29:∀(s29_30:Bool),Z68_j29 a0 s6_16 x24 x27 (Z68_l14 a0 a1 n14) s29_30=Kj29 s29_30:=by
    intro s29_30;refine Qe (hKj29 _) ?_;unfold Z68_j29;refine Q.wrapOO fun Kj21 hKj21=>?_;have hj21:∀(s5_22:(Sl Z4)),Z68_j21 s6_16 (Z68_l14 a0 a1 n14) s5_22=Kj21 s5_22:=by
     intro s5_22;refine Qe (hKj21 _) ?_;unfold Z68_j21;all_goals exact ih14 _ _ ⟨by omega,by omega⟩
    refine Q.condO ?_ ?_
    ·refine Q.bindO (Z79_eq _ _) fun x32=>?_;refine Q.bindO rfl fun x33=>?_;all_goals exact hj21 _
    refine Q.condO ?_ ?_
    ·refine Q.bindO (Z83_eq _) fun x36=>?_;refine Q.bindO rfl fun x37=>?_;all_goals exact hj21 _
    refine Q.condO ?_ ?_
    ·refine Q.bindO rfl fun x40=>?_;refine Q.bindO (Z81_eq _ _ _ _) fun x41=>?_;refine Q.bindO rfl fun x42=>?_;all_goals exact hj21 _
    all_goals exact hj21 _
   refine Q.condP ?_ ?_
   ·all_goals exact hj29 _
   all_goals exact hj29 _
  rw [dL (by omega),Z68_q14];refine QF hlt ?_;exact hend n14 s5_15 s6_16
def Z68_q (a0:TDoc) (a1:Bool):Option (Sl Z4):=Option.bind (Z68_q14 a0 a0.FDefs.l 0 (Sl.nil:Sl Z4)) fun s5_15=>on (s5_15) fun s5_4=>on (Z70_q a0 ([81,117,101,114,121]:Bs)) fun x6=>Option.bind (bif (a1&&(!x6.2)) then((appC 24 s5_4 (⟨false,[(Z4.mk (30:Int) ([81,117,101,114,121]:Bs))]⟩:Sl Z4)).bind fun x12=>some x12) else(some s5_4)) fun s5_8=>some s5_8
theorem Z68_eq (a0:TDoc) (a1:Bool):Z68 a0 a1=Z68_q a0 a1:=by
 unfold Z68 Z68_q;refine Qs ?_;refine Q.wrapOO fun Kb14 hKb14=>?_;refine Z68_l14_qe  Kb14 ?_ _ _ _ ⟨Nat.succ_pos _,by omega⟩;intro n14 s5_15 s6_16;refine Qe (hKb14 _) ?_;refine Q.wrapPO fun Kj3 hKj3=>?_;have hj3:∀(s5_4:(Sl Z4)),Z68_j3 a0 a1 s5_4=Kj3 s5_4:=by
  intro s5_4;refine Qe (hKj3 _) ?_;unfold Z68_j3;refine Q.bindPO (Z70_eq _ _) fun x6 hx_x6=>?_;refine Q.wrapOO fun Kj7 hKj7=>?_;have hj7:∀(s5_8:(Sl Z4)),Z68_j7  s5_8=Kj7 s5_8:=by
   intro s5_8;refine Qe (hKj7 _) ?_;unfold Z68_j7;all_goals rfl
  refine Q.condO ?_ ?_
  ·refine Q.bindO rfl fun x12=>?_;all_goals exact hj7 _
  all_goals exact hj7 _
 all_goals exact hj3 _
def Z94_q (a0:TDoc) (a1:Bs) (a2:Int):Int:=on (Z70_q a0 a1) fun x3=>on (bif (!x3.2) then Z74_q a1 else false) fun x6=>bif ((!x3.2)&&(!x6)) then((8:Int)) else(bif (!decide (x3.1.FKind=a2)) then((9:Int)) else((0:Int)))
theorem Z94_eq (a0:TDoc) (a1:Bs) (a2:Int):Z94 a0 a1 a2=some (Z94_q a0 a1 a2):=by
 unfold Z94 Z94_q;refine Q.bindP (Z70_eq _ _) fun x3 hx_x3=>?_;refine Q.guardP (Z74_eq _) fun x6 hx_x6=>?_;refine Q.condP ?_ ?_
 ·all_goals rfl
 refine Q.condP ?_ ?_
 ·all_goals rfl
 all_goals rfl
def Z93_q5 (a1:Bs):List Bs->Unit ⊕ Bool
 | []=>Sum.inl ()
 | h5::r5=>on (h5) fun x13=>bif ((x13==a1)) then(Sum.inr true) else(Z93_q5 a1 (r5) )
theorem Z93_l5_qe {a0:(Sl Bs)}{a1:Bs}  (Kb5:(Unit ⊕ Bool)->Option Bool) (hend:∀(n5:Nat) (s5_6:Nat),Z93_j2   =Kb5 (Sum.inl ())) (hret:∀e:Bool,some e=Kb5 (Sum.inr e)):∀(n5:Nat) (s5_6:Nat),(0<n5/\a0.l.length<s5_6+n5)->Z93_l5 a0 a1 n5 s5_6=Kb5 (Z93_q5 a1 (a0.l.drop s5_6) ):=by
 intro n5;induction n5 with
 | zero=>intro s5_6 hn; exact absurd hn.1 (by omega)
 | succ n5 ih5 =>
  intro s5_6 hn;rw [Z93_l5];by_cases hlt:s5_6<a0.l.length
  ·obtain⟨h5,hh5⟩:=Qa hlt;rw [Q.drop_of hh5,Z93_q5];refine QT hlt ?_;refine Q.bindP hh5 fun x13 hx_x13=>?_;refine Q.condP ?_ ?_
   ·all_goals exact hret _
   all_goals exact ih5 _ ⟨by omega,by omega⟩
  rw [dL (by omega),Z93_q5];refine QF hlt ?_;exact hend n5 s5_6
def Z93_q (a0:(Sl Bs)) (a1:Bs):Bool:=on (Z93_q5 a1 a0.l ) fun o5=>match o5 with|Sum.inl _=>(on (()) fun _=>false)|Sum.inr e5=>(e5)
theorem Z93_eq (a0:(Sl Bs)) (a1:Bs):Z93 a0 a1=some (Z93_q a0 a1):=by
 unfold Z93 Z93_q;refine Q.wrapPP fun Kb5 hKb5=>?_;refine Z93_l5_qe  Kb5 ?_ ?_ _ _ ⟨Nat.succ_pos _,by omega⟩
 ·intro n5 s5_6;refine Qe (hKb5 _) ?_;try dsimp only
  refine Q.wrapPP fun Kj2 hKj2=>?_;have hj2:Z93_j2  =Kj2 ():=by
   refine Qe (hKj2 _) ?_;unfold Z93_j2;all_goals rfl
  all_goals exact hj2
 intro e5;refine Qe (hKb5 _) ?_;try dsimp only
 all_goals rfl
def Z54_q (a0:TRef):Bool:=on (bif (decide ((0:Int)<((a0.FWraps.l.length:Nat):Int))) then((a0.FWraps.l)[0]?.getD (0:Int)) else(0:Int)) fun x4=>((decide ((0:Int)<((a0.FWraps.l.length:Nat):Int)))&&(decide (x4=(1:Int))))
theorem Z54_eq (a0:TRef):Z54 a0=some (Z54_q a0):=by
 unfold Z54 Z54_q;refine Q.guardT (fun hc=>Q.getD_some (by simp at hc; omega)) fun x4 hx_x4=>?_;all_goals rfl
def Z58_q (a0:TRef):Option TRef:=(partC a0.FWraps (some (1:Int)) none).bind fun x3=>(appC 8 (⟨false,[]⟩:Sl Int) x3).bind fun x4=>some (TRef.mk a0.FName x4)
theorem Z58_eq (a0:TRef):Z58 a0=Z58_q a0:=by
 unfold Z58 Z58_q;refine Qs ?_;refine Q.bindO rfl fun x3=>?_;refine Q.bindO rfl fun x4=>?_;all_goals rfl
def Z55_q (a0:TRef):Option TRef:=on (Z54_q a0) fun x4=>bif x4 then((Z58_q a0).bind fun x7=>some x7) else((appC 8 (⟨false,[]⟩:Sl Int) a0.FWraps).bind fun x9=>some (TRef.mk a0.FName x9))
theorem Z55_eq (a0:TRef):Z55 a0=Z55_q a0:=by
 unfold Z55 Z55_q;refine Qs ?_;refine Q.bindPO (Z54_eq _) fun x4 hx_x4=>?_;refine Q.condO ?_ ?_
 ·refine Q.bindO (Z58_eq _) fun x7=>?_;all_goals rfl
 refine Q.bindO rfl fun x9=>?_;all_goals rfl
def Z53_q (a0:TRef):Option Bool:=(Z55_q a0).bind fun x3=>on (bif (decide ((0:Int)<((x3.FWraps.l.length:Nat):Int))) then((x3.FWraps.l)[0]?.getD (0:Int)) else(0:Int)) fun x6=>some ((decide ((0:Int)<((x3.FWraps.l.length:Nat):Int)))&&(decide (x6=(2:Int))))
theorem Z53_eq (a0:TRef):Z53 a0=Z53_q a0:=by
 unfold Z53 Z53_q;refine Qs ?_;refine Q.bindO (Z55_eq _) fun x3=>?_;refine Q.guardTO (fun hc=>Q.getD_some (by simp at hc; omega)) fun x6 hx_x6=>?_;all_goals rfl
def Z52_q (a0:TRef):Option (TRef×Bool):=(Z53_q a0).bind fun x4=>bif (!x4) then(some ((TRef.mk ([]:Bs) (Sl.nil:Sl Int)),false)) else((Z55_q a0).bind fun x8=>(Z58_q x8).bind fun x9=>some (x9,true))
theorem Z52_eq (a0:TRef):Z52 a0=Z52_q a0:=by
 unfold Z52 Z52_q;refine Qs ?_;refine Q.bindO (Z53_eq _) fun x4=>?_;refine Q.condO ?_ ?_
 ·all_goals rfl
 refine Q.bindO (Z55_eq _) fun x8=>?_;refine Q.bindO (Z58_eq _) fun x9=>?_;all_goals rfl
def Z95_q5 (a1:Bs):List Z8->Unit ⊕ Bool
 | []=>Sum.inl ()
 | h5::r5=>on (h5) fun x13=>bif ((x13.FName==a1)) then(Sum.inr true) else(Z95_q5 a1 (r5) )
theorem Z95_l5_qe {a0:TDef}{a1:Bs}  (Kb5:(Unit ⊕ Bool)->Option Bool) (hend:∀(n5:Nat) (s5_6:Nat),Z95_j2   =Kb5 (Sum.inl ())) (hret:∀e:Bool,some e=Kb5 (Sum.inr e)):∀(n5:Nat) (s5_6:Nat),(0<n5/\a0.FMembers.l.length<s5_6+n5)->Z95_l5 a0 a1 n5 s5_6=Kb5 (Z95_q5 a1 (a0.FMembers.l.drop s5_6) ):=by
 intro n5;induction n5 with
 | zero=>intro s5_6 hn; exact absurd hn.1 (by omega)
 | succ n5 ih5 =>
  intro s5_6 hn;rw [Z95_l5];by_cases hlt:s5_6<a0.FMembers.l.length
  ·obtain⟨h5,hh5⟩:=Qa hlt;rw [Q.drop_of hh5,Z95_q5];refine QT hlt ?_;refine Q.bindP hh5 fun x13 hx_x13=>?_;refine Q.condP ?_ ?_
   ·all_goals exact hret _
   all_goals exact ih5 _ ⟨by omega,by omega⟩
  rw [dL (by omega),Z95_q5];refine QF hlt ?_;exact hend n5 s5_6
def Z95_q (a0:TDef) (a1:Bs):Bool:=on (Z95_q5 a1 a0.FMembers.l ) fun o5=>match o5 with|Sum.inl _=>(on (()) fun _=>false)|Sum.inr e5=>(e5)
theorem Z95_eq (a0:TDef) (a1:Bs):Z95 a0 a1=some (Z95_q a0 a1):=by
 unfold Z95 Z95_q;refine Q.wrapPP fun Kb5 hKb5=>?_;refine Z95_l5_qe  Kb5 ?_ ?_ _ _ ⟨Nat.succ_pos _,by omega⟩
 ·intro n5 s5_6;refine Qe (hKb5 _) ?_;try dsimp only
  refine Q.wrapPP fun Kj2 hKj2=>?_;have hj2:Z95_j2  =Kj2 ():=by
   refine Qe (hKj2 _) ?_;unfold Z95_j2;all_goals rfl
  all_goals exact hj2
 intro e5;refine Qe (hKb5 _) ?_;try dsimp only
 all_goals rfl
def Z92_q (a0:TDoc) (a1:Int):Option Bool:=Z92 a0 a1
theorem Z92_eq (a0:TDoc) (a1:Int):Z92 a0 a1=Z92_q a0 a1:=rfl
def Z89_q9 (a0:TDoc) (a1:Bs) (x4:(TDef×Bool)):List TDef->Nat->(Sl Bs)->Option ((Sl Bs))
 | [],s8_11,s5_10=>some s5_10
 | h9::r9,s8_11,s5_10=>bif x4.2 then(on (h9) fun x19=>guardO (!(!decide (x19.FKind=(1:Int)))) (Z92_q a0 ((s8_11:Nat):Int)) false fun x22=>Option.bind (bif ((!decide (x19.FKind=(1:Int)))||(!x22)) then(some s5_10) else(on (bif (!((decide (x4.1.FKind=(1:Int)))&&((x19.FName==a1)))&&(decide (x4.1.FKind=(2:Int)))) then Z93_q x19.FImplements a1 else false) fun x26=>on (bif (!(((decide (x4.1.FKind=(1:Int)))&&((x19.FName==a1)))||((decide (x4.1.FKind=(2:Int)))&&x26))&&(decide (x4.1.FKind=(3:Int)))) then Z95_q x4.1 x19.FName else false) fun x28=>bif ((((decide (x4.1.FKind=(1:Int)))&&((x19.FName==a1)))||((decide (x4.1.FKind=(2:Int)))&&x26))||((decide (x4.1.FKind=(3:Int)))&&x28)) then((appC 16 s5_10 (⟨false,[x19.FName]⟩:Sl Bs)).bind fun x31=>some x31) else(some s5_10))) fun s5_17=>Z89_q9 a0 a1 x4 (r9) (s8_11+1) s5_17) else(some s5_10)
theorem Z89_l9_qe {a0:TDoc}{a1:Bs}{x4:(TDef×Bool)}  (Kb9:((Sl Bs))->Option (Sl Bs)) (hend:∀(n9:Nat) (s5_10:(Sl Bs)) (s8_11:Nat),Z89_j5   s5_10=Kb9 s5_10):∀(n9:Nat) (s5_10:(Sl Bs)) (s8_11:Nat),(0<n9/\a0.FDefs.l.length<s8_11+n9)->Z89_l9 a0 a1 x4 n9 s5_10 s8_11=Option.bind (Z89_q9 a0 a1 x4 (a0.FDefs.l.drop s8_11) s8_11 s5_10) Kb9:=by
 intro n9;induction n9 with
 | zero=>intro s5_10 s8_11 hn; exact absurd hn.1 (by omega)
 | succ n9 ih9 =>
  intro s5_10 s8_11 hn;rw [Z89_l9];by_cases hlt:s8_11<a0.FDefs.l.length
  ·obtain⟨h9,hh9⟩:=Qa hlt;rw [Q.drop_of hh9,Z89_q9];refine Q.condAT (Q.ltT hlt) ?_;refine Q.condO ?_ ?_
   ·refine Q.bindPO hh9 fun x19 hx_x19=>?_;refine Q.guardOO (Z92_eq _ _) fun x22=>?_;refine Q.wrapOO fun Kj16 hKj16=>?_;have hj16:∀(s5_17:(Sl Bs)),Z89_j16 s8_11 (Z89_l9 a0 a1 x4 n9) s5_17=Kj16 s5_17:=by
     intro s5_17;refine Qe (hKj16 _) ?_;unfold Z89_j16;all_goals exact ih9 _ _ ⟨by omega,by omega⟩
    refine Q.condO ?_ ?_
    ·all_goals exact hj16 _
    refine Q.guardPO (Z93_eq _ _) fun x26 hx_x26=>?_;refine Q.guardPO (Z95_eq _ _) fun x28 hx_x28=>?_;refine Q.condO ?_ ?_
    ·refine Q.bindO rfl fun x31=>?_;all_goals exact hj16 _
    all_goals exact hj16 _
   all_goals exact hend n9 s5_10 s8_11
  rw [dL (by omega),Z89_q9];refine Q.condAF (Q.ltF hlt) ?_;exact hend n9 s5_10 s8_11
def Z89_q (a0:TDoc) (a1:Bs):Option (Sl Bs):=on (Z70_q a0 a1) fun x4=>Option.bind (Z89_q9 a0 a1 x4 a0.FDefs.l 0 (Sl.nil:Sl Bs)) fun s5_10=>on (s5_10) fun s5_6=>some s5_6
theorem Z89_eq (a0:TDoc) (a1:Bs):Z89 a0 a1=Z89_q a0 a1:=by
 unfold Z89 Z89_q;refine Qs ?_;refine Q.bindPO (Z70_eq _ _) fun x4 hx_x4=>?_;refine Q.wrapOO fun Kb9 hKb9=>?_;refine Z89_l9_qe  Kb9 ?_ _ _ _ ⟨Nat.succ_pos _,by omega⟩;intro n9 s5_10 s8_11;refine Qe (hKb9 _) ?_;refine Q.wrapPO fun Kj5 hKj5=>?_;have hj5:∀(s5_6:(Sl Bs)),Z89_j5  s5_6=Kj5 s5_6:=by
  intro s5_6;refine Qe (hKj5 _) ?_;unfold Z89_j5;all_goals rfl
 all_goals exact hj5 _
def Z88_q (a0:TDoc) (a1:Bs) (a2:Bs):Option Bool:=(Z89_q a0 a2).bind fun x3=>on (Z93_q x3 a1) fun x4=>some x4
theorem Z88_eq (a0:TDoc) (a1:Bs) (a2:Bs):Z88 a0 a1 a2=Z88_q a0 a1 a2:=by
 unfold Z88 Z88_q;refine Qs ?_;refine Q.bindO (Z89_eq _ _) fun x3=>?_;refine Q.bindPO (Z93_eq _ _) fun x4 hx_x4=>?_;all_goals rfl
def Z90_qn:Nat->TDoc->TRef->TRef->Option Bool
 | 0,_,_,_=>none
 | n+1,a0,a1,a2=>on (Z54_q a2) fun x4=>bif x4 then(on (Z54_q a1) fun x7=>guardO (x7) (Z55_q a1) TRef.zero fun x8=>guardO (x7) (Z55_q a2) TRef.zero fun x9=>guardO (x7) ((Z90_qn n) a0 x8 x9) false fun x10=>some (x7&&x10)) else(on (Z54_q a1) fun x13=>bif x13 then((Z55_q a1).bind fun x16=>((Z90_qn n) a0 x16 a2).bind fun x17=>some x17) else((Z52_q a1).bind fun x19=>(Z52_q a2).bind fun x21=>bif (x19.2&&x21.2) then(((Z90_qn n) a0 x19.1 x21.1).bind fun x26=>some x26) else(guardO ((((!x19.2)&&(!x21.2))&&!((a1.FName==a2.FName)))) (Z88_q a0 a1.FName a2.FName) false fun x28=>some (((!x19.2)&&(!x21.2))&&(((a1.FName==a2.FName))||x28)))))
theorem Z90_qall:∀n:Nat,Z90_n n=Z90_qn n:=by
 intro n;induction n with
 | zero=>exact(by funext a0 a1 a2; first|rfl|(rw [Z90_n,Z90_qn]))
 | succ n ih =>
  funext a0 a1 a2
  refine Qs ?_;rw [Z90_n,Z90_qn];try rw [ih]
  refine Q.bindPO (Z54_eq _) fun x4 hx_x4=>?_;refine Q.condO ?_ ?_
  ·refine Q.bindPO (Z54_eq _) fun x7 hx_x7=>?_;refine Q.guardOO (Z55_eq _) fun x8=>?_;refine Q.guardOO (Z55_eq _) fun x9=>?_;refine Q.guardOO rfl fun x10=>?_;all_goals rfl
  refine Q.bindPO (Z54_eq _) fun x13 hx_x13=>?_;refine Q.condO ?_ ?_
  ·refine Q.bindO (Z55_eq _) fun x16=>?_;refine Q.bindO rfl fun x17=>?_;all_goals rfl
  refine Q.bindO (Z52_eq _) fun x19=>?_;refine Q.bindO (Z52_eq _) fun x21=>?_;refine Q.condO ?_ ?_
  ·refine Q.bindO rfl fun x26=>?_;all_goals rfl
  refine Q.guardOO (Z88_eq _ _ _) fun x28=>?_;all_goals rfl
def Z90_q (a0:TDoc) (a1:TRef) (a2:TRef):Option Bool:=Z90_qn F0 a0 a1 a2
theorem Z90_eq (a0:TDoc) (a1:TRef) (a2:TRef):Z90 a0 a1 a2=Z90_q a0 a1 a2:=by
 unfold Z90 Z90_q; rw [(Z90_qall F0)]
def Z59_q11 (a1:(Sl Int)):List Int->Nat->Option (Unit ⊕ Bool)
 | [],s5_12=>some (Sum.inl ())
 | h11::r11,s5_12=>on (h11) fun x19=>(a1.l[s5_12]?).bind fun x20=>bif (!decide (x19=x20)) then(some (Sum.inr false)) else(Z59_q11 a1 (r11) (s5_12+1) )
theorem Z59_l11_qe {a0:(Sl Int)}{a1:(Sl Int)}  (Kb11:(Unit ⊕ Bool)->Option Bool) (hend:∀(n11:Nat) (s5_12:Nat),Z59_j8   =Kb11 (Sum.inl ())) (hret:∀e:Bool,some e=Kb11 (Sum.inr e)):∀(n11:Nat) (s5_12:Nat),(0<n11/\a0.l.length<s5_12+n11)->Z59_l11 a0 a1 n11 s5_12=Option.bind (Z59_q11 a1 (a0.l.drop s5_12) s5_12 ) Kb11:=by
 intro n11;induction n11 with
 | zero=>intro s5_12 hn; exact absurd hn.1 (by omega)
 | succ n11 ih11 =>
  intro s5_12 hn;rw [Z59_l11];by_cases hlt:s5_12<a0.l.length
  ·obtain⟨h11,hh11⟩:=Qa hlt;rw [Q.drop_of hh11,Z59_q11];refine QT hlt ?_;refine Q.bindPO hh11 fun x19 hx_x19=>?_;refine Q.bindO rfl fun x20=>?_;refine Q.condO ?_ ?_
   ·all_goals exact hret _
   all_goals exact ih11 _ ⟨by omega,by omega⟩
  rw [dL (by omega),Z59_q11];refine QF hlt ?_;exact hend n11 s5_12
def Z59_q (a0:(Sl Int)) (a1:(Sl Int)):Option Bool:=bif (!decide (((a0.l.length:Nat):Int)=((a1.l.length:Nat):Int))) then(some false) else(Option.bind (Z59_q11 a1 a0.l 0 ) fun o11=>match o11 with|Sum.inl _=>(on (()) fun _=>some true)|Sum.inr e11=>(some e11))
theorem Z59_eq (a0:(Sl Int)) (a1:(Sl Int)):Z59 a0 a1=Z59_q a0 a1:=by
 unfold Z59 Z59_q;refine Qs ?_;refine Q.condO ?_ ?_
 ·all_goals rfl
 refine Q.wrapOO fun Kb11 hKb11=>?_;refine Z59_l11_qe  Kb11 ?_ ?_ _ _ ⟨Nat.succ_pos _,by omega⟩
 ·intro n11 s5_12;refine Qe (hKb11 _) ?_;try dsimp only
  refine Q.wrapPO fun Kj8 hKj8=>?_;have hj8:Z59_j8  =Kj8 ():=by
   refine Qe (hKj8 _) ?_;unfold Z59_j8;all_goals rfl
  all_goals exact hj8
 intro e11;refine Qe (hKb11 _) ?_;try dsimp only
 all_goals rfl
def Z57_q (a0:TRef) (a1:TRef):Option Bool:=guardO (((a0.FName==a1.FName))) (Z59_q a0.FWraps a1.FWraps) false fun x3=>some (((a0.FName==a1.FName))&&x3)
theorem Z57_eq (a0:TRef) (a1:TRef):Z57 a0 a1=Z57_q a0 a1:=by
 unfold Z57 Z57_q;refine Qs ?_;refine Q.guardOO (Z59_eq _ _) fun x3=>?_;all_goals rfl
def Z91_q43 (x4:Bs) (x6:(Z5×Bool)):List Z7->(Sl Z4)->Option ((Sl Z4))
 | [],s10_44=>some s10_44
 | h43::r43,s10_44=>on (h43) fun x53=>on (Z71_q x6.1.FArgs x53.FName) fun x54=>on (bif !(!x54.2) then h43 else Z7.zero) fun x56=>guardO (!(!x54.2)) (Z57_q x54.1.FType x56.FType) false fun x57=>Option.bind (bif ((!x54.2)||(!x57)) then((catC x4 ([40]:Bs)).bind fun x59=>on (h43) fun x60=>(catC x59 x60.FName).bind fun x61=>(catC x61 ([41]:Bs)).bind fun x62=>(appC 24 s10_44 (⟨false,[(Z4.mk (22:Int) x62)]⟩:Sl Z4)).bind fun x63=>some x63) else(some s10_44)) fun s10_51=>Z91_q43 x4 x6 (r43) s10_51
theorem Z91_l43_qe {a2:Z5}{x4:Bs}{x6:(Z5×Bool)}  (Kb43:((Sl Z4))->Option (Sl Z4)) (hend:∀(n43:Nat) (s10_44:(Sl Z4)) (s11_45:Nat),Z91_j14 a2 x4 x6  s10_44=Kb43 s10_44):∀(n43:Nat) (s10_44:(Sl Z4)) (s11_45:Nat),(0<n43/\a2.FArgs.l.length<s11_45+n43)->Z91_l43 a2 x4 x6 n43 s10_44 s11_45=Option.bind (Z91_q43 x4 x6 (a2.FArgs.l.drop s11_45) s10_44) Kb43:=by
 intro n43;induction n43 with
 | zero=>intro s10_44 s11_45 hn; exact absurd hn.1 (by omega)
 | succ n43 ih43 =>
  intro s10_44 s11_45 hn;rw [Z91_l43];by_cases hlt:s11_45<a2.FArgs.l.length
  ·obtain⟨h43,hh43⟩:=Qa hlt;rw [Q.drop_of hh43,Z91_q43];refine QT hlt ?_;refine Q.bindPO hh43 fun x53 hx_x53=>?_;refine Q.bindPO (Z71_eq _ _) fun x54 hx_x54=>?_;refine Q.guardPO hh43 fun x56 hx_x56=>?_;refine Q.guardOO (Z57_eq _ _) fun x57=>?_;refine Q.wrapOO fun Kj50 hKj50=>?_;have hj50:∀(s10_51:(Sl Z4)),Z91_j50 s11_45 (Z91_l43 a2 x4 x6 n43) s10_51=Kj50 s10_51:=by
    intro s10_51;refine Qe (hKj50 _) ?_;unfold Z91_j50;all_goals exact ih43 _ _ ⟨by omega,by omega⟩
   refine Q.condO ?_ ?_
   ·refine Q.bindO rfl fun x59=>?_;refine Q.bindPO hh43 fun x60 hx_x60=>?_;refine Q.bindO rfl fun x61=>?_;refine Q.bindO rfl fun x62=>?_;refine Q.bindO rfl fun x63=>?_;all_goals exact hj50 _
   all_goals exact hj50 _
  rw [dL (by omega),Z91_q43];refine QF hlt ?_;exact hend n43 s10_44 s11_45
def Z91_q20 (a2:Z5) (x4:Bs):List Z7->(Sl Z4)->Option ((Sl Z4))
 | [],s10_21=>some s10_21
 | h20::r20,s10_21=>on (h20) fun x30=>on (Z71_q a2.FArgs x30.FName) fun x31=>on (bif (!x31.2) then h20 else Z7.zero) fun x33=>on (bif (!x31.2) then Z54_q x33.FType else false) fun x34=>on (bif ((!x31.2)&&x34) then h20 else Z7.zero) fun x35=>Option.bind (bif (((!x31.2)&&x34)&&(!x35.FHas)) then((catC x4 ([40]:Bs)).bind fun x37=>on (h20) fun x38=>(catC x37 x38.FName).bind fun x39=>(catC x39 ([41]:Bs)).bind fun x40=>(appC 24 s10_21 (⟨false,[(Z4.mk (22:Int) x40)]⟩:Sl Z4)).bind fun x41=>some x41) else(some s10_21)) fun s10_28=>Z91_q20 a2 x4 (r20) s10_28
theorem Z91_l20_qe {a2:Z5}{x4:Bs}{x6:(Z5×Bool)}  (Kb20:((Sl Z4))->Option (Sl Z4)) (hend:∀(n20:Nat) (s10_21:(Sl Z4)) (s14_22:Nat),Z91_j16   s10_21=Kb20 s10_21):∀(n20:Nat) (s10_21:(Sl Z4)) (s14_22:Nat),(0<n20/\x6.1.FArgs.l.length<s14_22+n20)->Z91_l20 a2 x4 x6 n20 s10_21 s14_22=Option.bind (Z91_q20 a2 x4 (x6.1.FArgs.l.drop s14_22) s10_21) Kb20:=by
 intro n20;induction n20 with
 | zero=>intro s10_21 s14_22 hn; exact absurd hn.1 (by omega)
 | succ n20 ih20 =>
  intro s10_21 s14_22 hn;rw [Z91_l20];by_cases hlt:s14_22<x6.1.FArgs.l.length
  ·obtain⟨h20,hh20⟩:=Qa hlt;rw [Q.drop_of hh20,Z91_q20];refine QT hlt ?_;refine Q.bindPO hh20 fun x30 hx_x30=>?_;refine Q.bindPO (Z71_eq _ _) fun x31 hx_x31=>?_;refine Q.guardPO hh20 fun x33 hx_x33=>?_;refine Q.guardPO (Z54_eq _) fun x34 hx_x34=>?_;refine Q.guardPO hh20 fun x35 hx_x35=>?_;refine Q.wrapOO fun Kj27 hKj27=>?_;have hj27:∀(s10_28:(Sl Z4)),Z91_j27 s14_22 (Z91_l20 a2 x4 x6 n20) s10_28=Kj27 s10_28:=by
    intro s10_28;refine Qe (hKj27 _) ?_;unfold Z91_j27;all_goals exact ih20 _ _ ⟨by omega,by omega⟩
   refine Q.condO ?_ ?_
   ·refine Q.bindO rfl fun x37=>?_;refine Q.bindPO hh20 fun x38 hx_x38=>?_;refine Q.bindO rfl fun x39=>?_;refine Q.bindO rfl fun x40=>?_;refine Q.bindO rfl fun x41=>?_;all_goals exact hj27 _
   all_goals exact hj27 _
  rw [dL (by omega),Z91_q20];refine QF hlt ?_;exact hend n20 s10_21 s14_22
def Z91_q (a0:TDoc) (a1:TDef) (a2:Z5):Option (Sl Z4):=(catC a1.FName ([46]:Bs)).bind fun x3=>(catC x3 a2.FName).bind fun x4=>on (Z69_q a1 a2.FName) fun x6=>bif (!x6.2) then(some (⟨false,[(Z4.mk (20:Int) x4)]⟩:Sl Z4)) else((Z90_q a0 x6.1.FType a2.FType).bind fun x65=>Option.bind (bif (!x65) then((appC 24 (Sl.nil:Sl Z4) (⟨false,[(Z4.mk (10:Int) x4)]⟩:Sl Z4)).bind fun x67=>some x67) else(some (Sl.nil:Sl Z4))) fun s10_13=>Option.bind (Z91_q43 x4 x6 a2.FArgs.l s10_13) fun s10_44=>on (s10_44) fun s10_15=>Option.bind (Z91_q20 a2 x4 x6.1.FArgs.l s10_15) fun s10_21=>on (s10_21) fun s10_17=>some s10_17)
theorem Z91_eq (a0:TDoc) (a1:TDef) (a2:Z5):Z91 a0 a1 a2=Z91_q a0 a1 a2:=by
 unfold Z91 Z91_q;refine Qs ?_;refine Q.bindO rfl fun x3=>?_;refine Q.bindO rfl fun x4=>?_;refine Q.bindPO (Z69_eq _ _) fun x6 hx_x6=>?_;refine Q.condO ?_ ?_
 ·all_goals rfl
 refine Q.bindO (Z90_eq _ _ _) fun x65=>?_;refine Q.wrapOO fun Kj12 hKj12=>?_;have hj12:∀(s10_13:(Sl Z4)),Z91_j12 a2 x4 x6 s10_13=Kj12 s10_13:=by
  intro s10_13;refine Qe (hKj12 _) ?_;unfold Z91_j12;refine Q.wrapOO fun Kb43 hKb43=>?_;refine Z91_l43_qe  Kb43 ?_ _ _ _ ⟨Nat.succ_pos _,by omega⟩;intro n43 s10_44 s11_45;refine Qe (hKb43 _) ?_;refine Q.wrapPO fun Kj14 hKj14=>?_;have hj14:∀(s10_15:(Sl Z4)),Z91_j14 a2 x4 x6 s10_15=Kj14 s10_15:=by
   intro s10_15;refine Qe (hKj14 _) ?_;unfold Z91_j14;refine Q.wrapOO fun Kb20 hKb20=>?_;refine Z91_l20_qe  Kb20 ?_ _ _ _ ⟨Nat.succ_pos _,by omega⟩;intro n20 s10_21 s14_22;refine Qe (hKb20 _) ?_;refine Q.wrapPO fun Kj16 hKj16=>?_;have hj16:∀(s10_17:(Sl Z4)),Z91_j16  s10_17=Kj16 s10_17:=by
    intro s10_17;refine Qe (hKj16 _) ?_;unfold Z91_j16;all_goals rfl
   all_goals exact hj16 _
  all_goals exact hj14 _
 refine Q.condO ?_ ?_
 ·refine Q.bindO rfl fun x67=>?_;all_goals exact hj12 _
 all_goals exact hj12 _
def Z96_q30 (a0:TDoc) (a1:TDef):List Z5->(Sl Z4)->Option ((Sl Z4))
 | [],s5_31=>some s5_31
 | h30::r30,s5_31=>on (h30) fun x38=>(Z91_q a0 a1 x38).bind fun x39=>(appC 24 s5_31 x39).bind fun x40=>Z96_q30 a0 a1 (r30) x40
theorem Z96_l30_qe {a0:TDoc}{a1:TDef}{s6_9:Nat}{x28:(TDef×Bool)}{k_next_7:(Sl Z4)->Nat->Option (Sl Z4)}  (Kb30:((Sl Z4))->Option (Sl Z4)) (hend:∀(n30:Nat) (s5_31:(Sl Z4)) (s10_32:Nat),Z96_j14 s6_9 k_next_7 s5_31=Kb30 s5_31):∀(n30:Nat) (s5_31:(Sl Z4)) (s10_32:Nat),(0<n30/\x28.1.FFields.l.length<s10_32+n30)->Z96_l30 a0 a1 s6_9 x28 k_next_7 n30 s5_31 s10_32=Option.bind (Z96_q30 a0 a1 (x28.1.FFields.l.drop s10_32) s5_31) Kb30:=by
 intro n30;induction n30 with
 | zero=>intro s5_31 s10_32 hn; exact absurd hn.1 (by omega)
 | succ n30 ih30 =>
  intro s5_31 s10_32 hn;rw [Z96_l30];by_cases hlt:s10_32<x28.1.FFields.l.length
  ·obtain⟨h30,hh30⟩:=Qa hlt;rw [Q.drop_of hh30,Z96_q30];refine QT hlt ?_;refine Q.bindPO hh30 fun x38 hx_x38=>?_;refine Q.bindO (Z91_eq _ _ _) fun x39=>?_;refine Q.bindO rfl fun x40=>?_;all_goals exact ih30 _ _ ⟨by omega,by omega⟩
  rw [dL (by omega),Z96_q30];refine QF hlt ?_;exact hend n30 s5_31 s10_32
def Z96_q7 (a0:TDoc) (a1:TDef):List Bs->Nat->(Sl Z4)->Option ((Sl Z4))
 | [],s6_9,s5_8=>some s5_8
 | h7::r7,s6_9,s5_8=>on (h7) fun x17=>on (Z94_q a0 x17 (2:Int)) fun x18=>on (bif (decide (x18=(0:Int))) then(⟨a1.FImplements.nl,a1.FImplements.l.take s6_9⟩:Sl Bs) else(Sl.nil:Sl Bs)) fun x42=>on (bif (decide (x18=(0:Int))) then h7 else([]:Bs)) fun x43=>on (bif (decide (x18=(0:Int))) then Z93_q x42 x43 else false) fun x44=>on (bif ((decide (x18=(0:Int)))&&x44) then((7:Int)) else(x18)) fun s7_20=>Option.bind (bif (!decide (s7_20=(0:Int))) then((appC 24 s5_8 (⟨false,[(Z4.mk s7_20 a1.FName)]⟩:Sl Z4)).bind fun x25=>some x25) else(on (h7) fun x27=>on (Z70_q a0 x27) fun x28=>Option.bind (Z96_q30 a0 a1 x28.1.FFields.l s5_8) fun s5_31=>some s5_31)) fun s5_15=>Z96_q7 a0 a1 (r7) (s6_9+1) s5_15
theorem Z96_l7_qe {a0:TDoc}{a1:TDef}  (Kb7:((Sl Z4))->Option (Sl Z4)) (hend:∀(n7:Nat) (s5_8:(Sl Z4)) (s6_9:Nat),Z96_j3   s5_8=Kb7 s5_8):∀(n7:Nat) (s5_8:(Sl Z4)) (s6_9:Nat),(0<n7/\a1.FImplements.l.length<s6_9+n7)->Z96_l7 a0 a1 n7 s5_8 s6_9=Option.bind (Z96_q7 a0 a1 (a1.FImplements.l.drop s6_9) s6_9 s5_8) Kb7:=by
 intro n7;induction n7 with
 | zero=>intro s5_8 s6_9 hn; exact absurd hn.1 (by omega)
 | succ n7 ih7 =>
  intro s5_8 s6_9 hn;rw [Z96_l7];by_cases hlt:s6_9<a1.FImplements.l.length
  ·obtain⟨h7,hh7⟩:=Qa hlt;rw [Q.drop_of hh7,Z96_q7];refine QT hlt ?_;refine Q.bindPO hh7 fun x17 hx_x17=>?_;refine Q.bindPO (Z94_eq _ _ _) fun x18 hx_x18=>?_;refine Q.guardPO (Q.partC_take (by omega)) fun x42 hx_x42=>?_;refine Q.guardPO hh7 fun x43 hx_x43=>?_;refine Q.guardPO (Z93_eq _ _) fun x44 hx_x44=>?_;refine Q.wrapPO fun Kj19 hKj19=>?_;have hj19:∀(s7_20:Int),Z96_j19 a0 a1 s5_8 s6_9 (Z96_l7 a0 a1 n7) s7_20=Kj19 s7_20:=by
    intro s7_20;refine Qe (hKj19 _) ?_;unfold Z96_j19;refine Q.wrapOO fun Kj14 hKj14=>?_;have hj14:∀(s5_15:(Sl Z4)),Z96_j14 s6_9 (Z96_l7 a0 a1 n7) s5_15=Kj14 s5_15:=by
     intro s5_15;refine Qe (hKj14 _) ?_;unfold Z96_j14;all_goals exact ih7 _ _ ⟨by omega,by omega⟩
    refine Q.condO ?_ ?_
    ·refine Q.bindO rfl fun x25=>?_;all_goals exact hj14 _
    refine Q.bindPO hh7 fun x27 hx_x27=>?_;refine Q.bindPO (Z70_eq _ _) fun x28 hx_x28=>?_;refine Q.wrapOO fun Kb30 hKb30=>?_;refine Z96_l30_qe  Kb30 ?_ _ _ _ ⟨Nat.succ_pos _,by omega⟩;intro n30 s5_31 s10_32;refine Qe (hKb30 _) ?_;all_goals exact hj14 _
   refine Q.condP ?_ ?_
   ·all_goals exact hj19 _
   all_goals exact hj19 _
  rw [dL (by omega),Z96_q7];refine QF hlt ?_;exact hend n7 s5_8 s6_9
def Z96_q (a0:TDoc) (a1:TDef):Option (Sl Z4):=Option.bind (Z96_q7 a0 a1 a1.FImplements.l 0 (Sl.nil:Sl Z4)) fun s5_8=>on (s5_8) fun s5_4=>some s5_4
theorem Z96_eq (a0:TDoc) (a1:TDef):Z96 a0 a1=Z96_q a0 a1:=by
 unfold Z96 Z96_q;refine Qs ?_;refine Q.wrapOO fun Kb7 hKb7=>?_;refine Z96_l7_qe  Kb7 ?_ _ _ _ ⟨Nat.succ_pos _,by omega⟩;intro n7 s5_8 s6_9;refine Qe (hKb7 _) ?_;refine Q.wrapPO fun Kj3 hKj3=>?_;have hj3:∀(s5_4:(Sl Z4)),Z96_j3  s5_4=Kj3 s5_4:=by
  intro s5_4;refine Qe (hKj3 _) ?_;unfold Z96_j3;all_goals rfl
 all_goals exact hj3 _
def Z97_q7 (a0:TDoc) (a1:TDef):List Z8->Nat->(Sl Z4)->Option ((Sl Z4))
 | [],s6_9,s5_8=>some s5_8
 | h7::r7,s6_9,s5_8=>on (h7) fun x17=>on (Z94_q a0 x17.FName (1:Int)) fun x19=>on (bif (decide (x19=(0:Int))) then(⟨a1.FMembers.nl,a1.FMembers.l.take s6_9⟩:Sl Z8) else(Sl.nil:Sl Z8)) fun x28=>on (bif (decide (x19=(0:Int))) then Z95_q (TDef.mk (0:Int) ([]:Bs) (Sl.nil:Sl Bs) (Sl.nil:Sl TDir) (Sl.nil:Sl Z5) x28 (Sl.nil:Sl Z7)) x17.FName else false) fun x29=>on (bif ((decide (x19=(0:Int)))&&x29) then((7:Int)) else(x19)) fun s8_21=>Option.bind (bif (!decide (s8_21=(0:Int))) then((catC a1.FName ([46]:Bs)).bind fun x24=>(catC x24 x17.FName).bind fun x25=>(appC 24 s5_8 (⟨false,[(Z4.mk s8_21 x25)]⟩:Sl Z4)).bind fun x26=>some x26) else(some s5_8)) fun s5_15=>Z97_q7 a0 a1 (r7) (s6_9+1) s5_15
theorem Z97_l7_qe {a0:TDoc}{a1:TDef}  (Kb7:((Sl Z4))->Option (Sl Z4)) (hend:∀(n7:Nat) (s5_8:(Sl Z4)) (s6_9:Nat),Z97_j3   s5_8=Kb7 s5_8):∀(n7:Nat) (s5_8:(Sl Z4)) (s6_9:Nat),(0<n7/\a1.FMembers.l.length<s6_9+n7)->Z97_l7 a0 a1 n7 s5_8 s6_9=Option.bind (Z97_q7 a0 a1 (a1.FMembers.l.drop s6_9) s6_9 s5_8) Kb7:=by
 intro n7;induction n7 with
 | zero=>intro s5_8 s6_9 hn; exact absurd hn.1 (by omega)
 | succ n7 ih7 =>
  intro s5_8 s6_9 hn;rw [Z97_l7];by_cases hlt:s6_9<a1.FMembers.l.length
  ·obtain⟨h7,hh7⟩:=Qa hlt;rw [Q.drop_of hh7,Z97_q7];refine QT hlt ?_;refine Q.bindPO hh7 fun x17 hx_x17=>?_;refine Q.bindPO (Z94_eq _ _ _) fun x19 hx_x19=>?_;refine Q.guardPO (Q.partC_take (by omega)) fun x28 hx_x28=>?_;refine Q.guardPO (Z95_eq _ _) fun x29 hx_x29=>?_;refine Q.wrapPO fun Kj20 hKj20=>?_;have hj20:∀(s8_21:Int),Z97_j20 a1 s5_8 s6_9 x17 (Z97_l7 a0 a1 n7) s8_21=Kj20 s8_21:=by
    intro s8_21;refine Qe (hKj20 _) ?_;unfold Z97_j20;refine Q.wrapOO fun Kj14 hKj14=>?_;have hj14:∀(s5_15:(Sl Z4)),Z97_j14 s6_9 (Z97_l7 a0 a1 n7) s5_15=Kj14 s5_15:=by
     intro s5_15;refine Qe (hKj14 _) ?_;unfold Z97_j14;all_goals exact ih7 _ _ ⟨by omega,by omega⟩
    refine Q.condO ?_ ?_
    ·refine Q.bindO rfl fun x24=>?_;refine Q.bindO rfl fun x25=>?_;refine Q.bindO rfl fun x26=>?_;all_goals exact hj14 _
    all_goals exact hj14 _
   refine Q.condP ?_ ?_
   ·all_goals exact hj20 _
   all_goals exact hj20 _
  rw [dL (by omega),Z97_q7];refine QF hlt ?_;exact hend n7 s5_8 s6_9
def Z97_q (a0:TDoc) (a1:TDef):Option (Sl Z4):=Option.bind (Z97_q7 a0 a1 a1.FMembers.l 0 (Sl.nil:Sl Z4)) fun s5_8=>on (s5_8) fun s5_4=>some s5_4
theorem Z97_eq (a0:TDoc) (a1:TDef):Z97 a0 a1=Z97_q a0 a1:=by
 unfold Z97 Z97_q;refine Qs ?_;refine Q.wrapOO fun Kb7 hKb7=>?_;refine Z97_l7_qe  Kb7 ?_ _ _ _ ⟨Nat.succ_pos _,by omega⟩;intro n7 s5_8 s6_9;refine Qe (hKb7 _) ?_;refine Q.wrapPO fun Kj3 hKj3=>?_;have hj3:∀(s5_4:(Sl Z4)),Z97_j3  s5_4=Kj3 s5_4:=by
  intro s5_4;refine Qe (hKj3 _) ?_;unfold Z97_j3;all_goals rfl
 all_goals exact hj3 _
def Z87_q7 (a0:TDoc):List TDef->(Sl Z4)->Option ((Sl Z4))
 | [],s3_8=>some s3_8
 | h7::r7,s3_8=>on (h7) fun x17=>Option.bind (bif (decide (x17.FKind=(1:Int))) then(on (h7) fun x20=>(Z96_q a0 x20).bind fun x21=>(appC 24 s3_8 x21).bind fun x22=>some x22) else(bif (decide (x17.FKind=(3:Int))) then(on (h7) fun x25=>(Z97_q a0 x25).bind fun x26=>(appC 24 s3_8 x26).bind fun x27=>some x27) else(some s3_8))) fun s3_15=>Z87_q7 a0 (r7) s3_15
theorem Z87_l7_qe {a0:TDoc}  (Kb7:((Sl Z4))->Option (Sl Z4)) (hend:∀(n7:Nat) (s3_8:(Sl Z4)) (s4_9:Nat),Z87_j3   s3_8=Kb7 s3_8):∀(n7:Nat) (s3_8:(Sl Z4)) (s4_9:Nat),(0<n7/\a0.FDefs.l.length<s4_9+n7)->Z87_l7 a0 n7 s3_8 s4_9=Option.bind (Z87_q7 a0 (a0.FDefs.l.drop s4_9) s3_8) Kb7:=by
 intro n7;induction n7 with
 | zero=>intro s3_8 s4_9 hn; exact absurd hn.1 (by omega)
 | succ n7 ih7 =>
  intro s3_8 s4_9 hn;rw [Z87_l7];by_cases hlt:s4_9<a0.FDefs.l.length
  ·obtain⟨h7,hh7⟩:=Qa hlt;rw [Q.drop_of hh7,Z87_q7];refine QT hlt ?_;refine Q.bindPO hh7 fun x17 hx_x17=>?_;refine Q.wrapOO fun Kj14 hKj14=>?_;have hj14:∀(s3_15:(Sl Z4)),Z87_j14 s4_9 (Z87_l7 a0 n7) s3_15=Kj14 s3_15:=by
    intro s3_15;refine Qe (hKj14 _) ?_;unfold Z87_j14;all_goals exact ih7 _ _ ⟨by omega,by omega⟩
   refine Q.condO ?_ ?_
   ·refine Q.bindPO hh7 fun x20 hx_x20=>?_;refine Q.bindO (Z96_eq _ _) fun x21=>?_;refine Q.bindO rfl fun x22=>?_;all_goals exact hj14 _
   refine Q.condO ?_ ?_
   ·refine Q.bindPO hh7 fun x25 hx_x25=>?_;refine Q.bindO (Z97_eq _ _) fun x26=>?_;refine Q.bindO rfl fun x27=>?_;all_goals exact hj14 _
   all_goals exact hj14 _
  rw [dL (by omega),Z87_q7];refine QF hlt ?_;exact hend n7 s3_8 s4_9
def Z87_q (a0:TDoc):Option (Sl Z4):=Option.bind (Z87_q7 a0 a0.FDefs.l (Sl.nil:Sl Z4)) fun s3_8=>on (s3_8) fun s3_4=>some s3_4
theorem Z87_eq (a0:TDoc):Z87 a0=Z87_q a0:=by
 unfold Z87 Z87_q;refine Qs ?_;refine Q.wrapOO fun Kb7 hKb7=>?_;refine Z87_l7_qe  Kb7 ?_ _ _ _ ⟨Nat.succ_pos _,by omega⟩;intro n7 s3_8 s4_9;refine Qe (hKb7 _) ?_;refine Q.wrapPO fun Kj3 hKj3=>?_;have hj3:∀(s3_4:(Sl Z4)),Z87_j3  s3_4=Kj3 s3_4:=by
  intro s3_4;refine Qe (hKj3 _) ?_;unfold Z87_j3;all_goals rfl
 all_goals exact hj3 _
def Z48_q7 (k_rec_196:Z10->Option Z10):List Z10->(Sl Z10)->Option ((Sl Z10))
 | [],s3_8=>some s3_8
 | h7::r7,s3_8=>on (h7) fun x15=>(k_rec_196 x15).bind fun x16=>(appC 80 s3_8 (⟨false,[x16]⟩:Sl Z10)).bind fun x17=>Z48_q7 k_rec_196 (r7) x17
theorem Z48_l7_qe {a0:(Sl Z10)}{k_rec_196:Z10->Option Z10}  (Kb7:((Sl Z10))->Option (Sl Z10)) (hend:∀(n7:Nat) (s3_8:(Sl Z10)) (s4_9:Nat),Z48_j3   s3_8=Kb7 s3_8):∀(n7:Nat) (s3_8:(Sl Z10)) (s4_9:Nat),(0<n7/\a0.l.length<s4_9+n7)->Z48_l7 a0 k_rec_196 n7 s3_8 s4_9=Option.bind (Z48_q7 k_rec_196 (a0.l.drop s4_9) s3_8) Kb7:=by
 intro n7;induction n7 with
 | zero=>intro s3_8 s4_9 hn; exact absurd hn.1 (by omega)
 | succ n7 ih7 =>
  intro s3_8 s4_9 hn;rw [Z48_l7];by_cases hlt:s4_9<a0.l.length
  ·obtain⟨h7,hh7⟩:=Qa hlt;rw [Q.drop_of hh7,Z48_q7];refine QT hlt ?_;refine Q.bindPO hh7 fun x15 hx_x15=>?_;refine Q.bindO rfl fun x16=>?_;refine Q.bindO rfl fun x17=>?_;all_goals exact ih7 _ _ ⟨by omega,by omega⟩
  rw [dL (by omega),Z48_q7];refine QF hlt ?_;exact hend n7 s3_8 s4_9
mutual
def r02_Copy_qn:Nat->Z10->Option Z10
 | 0,_=>none
 | n+1,a0=>((Z48_qn n) a0.FItems).bind fun x3=>(appC 16 (⟨false,[]⟩:Sl Bs) a0.FKeys).bind fun x4=>some (Z10.mk a0.FKind a0.FInt a0.FText x3.nl x3.l x4)
def Z48_qn:Nat->(Sl Z10)->Option (Sl Z10)
 | 0,_=>none
 | n+1,a0=>Option.bind (Z48_q7 (r02_Copy_qn n) a0.l (Sl.nil:Sl Z10)) fun s3_8=>on (s3_8) fun s3_4=>some s3_4
end
theorem r02_Copy_qall:∀n:Nat,r02_Copy_n n=r02_Copy_qn n/\Z48_n n=Z48_qn n:=by
 intro n;induction n with
 | zero=>exact⟨(by funext a0; first|rfl|(rw [r02_Copy_n,r02_Copy_qn])),(by funext a0; first|rfl|(rw [Z48_n,Z48_qn]))⟩
 | succ n ih =>
  refine⟨?_, ?_⟩
  ·funext a0
   refine Qs ?_;rw [r02_Copy_n,r02_Copy_qn];try rw [ih.1]
   try rw [ih.2]
   refine Q.bindO rfl fun x3=>?_;refine Q.bindO rfl fun x4=>?_;all_goals rfl
  funext a0
  refine Qs ?_;rw [Z48_n,Z48_qn];try rw [ih.1]
  try rw [ih.2]
  refine Q.wrapOO fun Kb7 hKb7=>?_;refine Z48_l7_qe  Kb7 ?_ _ _ _ ⟨Nat.succ_pos _,by omega⟩;intro n7 s3_8 s4_9;refine Qe (hKb7 _) ?_;refine Q.wrapPO fun Kj3 hKj3=>?_;have hj3:∀(s3_4:(Sl Z10)),Z48_j3  s3_4=Kj3 s3_4:=by
   intro s3_4;refine Qe (hKj3 _) ?_;unfold Z48_j3;all_goals rfl
  all_goals exact hj3 _
def r02_Copy_q (a0:Z10):Option Z10:=r02_Copy_qn F0 a0
theorem r02_Copy_eq (a0:Z10):r02_Copy a0=r02_Copy_q a0:=by
 unfold r02_Copy r02_Copy_q; rw [(r02_Copy_qall F0).1]
def Z45_q10 (a0:Z10) (a1:Bs):List Bs->Nat->Option (Unit ⊕ ((Z10×Bool)))
 | [],s6_11=>some (Sum.inl ())
 | h10::r10,s6_11=>on (h10) fun x19=>bif ((x19==a1)) then(bif (decide (((a0.FItems.l.length:Nat):Int)<=((s6_11:Nat):Int))) then(some (Sum.inr ((Z10.mk (0:Int) (0:Int) ([]:Bs) true ([]) (Sl.nil:Sl Bs)),false))) else((a0.FItems.l[s6_11]?).bind fun x27=>(r02_Copy_q x27).bind fun x28=>some (Sum.inr (x28,true)))) else(Z45_q10 a0 a1 (r10) (s6_11+1) )
theorem Z45_l10_qe {a0:Z10}{a1:Bs}  (Kb10:(Unit ⊕ ((Z10×Bool)))->Option (Z10×Bool)) (hend:∀(n10:Nat) (s6_11:Nat) (y12_l0:Z10),Z45_j6   y12_l0=Kb10 (Sum.inl ())) (hret:∀e:(Z10×Bool),some e=Kb10 (Sum.inr e)):∀(n10:Nat) (s6_11:Nat) (y12_l0:Z10),(0<n10/\a0.FKeys.l.length<s6_11+n10)->Z45_l10 a0 a1 n10 s6_11 y12_l0=Option.bind (Z45_q10 a0 a1 (a0.FKeys.l.drop s6_11) s6_11 ) Kb10:=by
 intro n10;induction n10 with
 | zero=>intro s6_11 y12_l0 hn; exact absurd hn.1 (by omega)
 | succ n10 ih10 =>
  intro s6_11 y12_l0 hn;rw [Z45_l10];by_cases hlt:s6_11<a0.FKeys.l.length
  ·obtain⟨h10,hh10⟩:=Qa hlt;rw [Q.drop_of hh10,Z45_q10];refine QT hlt ?_;refine Q.bindPO hh10 fun x19 hx_x19=>?_;refine Q.condO ?_ ?_
   ·refine Q.condO ?_ ?_
    ·all_goals exact hret _
    refine Q.bindO rfl fun x27=>?_;refine Q.bindO (r02_Copy_eq _) fun x28=>?_;all_goals exact hret _
   all_goals exact ih10 _ _ ⟨by omega,by omega⟩
  rw [dL (by omega),Z45_q10];refine QF hlt ?_;exact hend n10 s6_11 y12_l0
def Z45_q (a0:Z10) (a1:Bs):Option (Z10×Bool):=bif (!decide (a0.FKind=(6:Int))) then(some ((Z10.mk (0:Int) (0:Int) ([]:Bs) true ([]) (Sl.nil:Sl Bs)),false)) else(Option.bind (Z45_q10 a0 a1 a0.FKeys.l 0 ) fun o10=>match o10 with|Sum.inl _=>(on (()) fun _=>some ((Z10.mk (0:Int) (0:Int) ([]:Bs) true ([]) (Sl.nil:Sl Bs)),false))|Sum.inr e10=>(some e10))
theorem Z45_eq (a0:Z10) (a1:Bs):Z45 a0 a1=Z45_q a0 a1:=by
 unfold Z45 Z45_q;refine Qs ?_;refine Q.condO ?_ ?_
 ·all_goals rfl
 refine Q.wrapOO fun Kb10 hKb10=>?_;refine Z45_l10_qe  Kb10 ?_ ?_ _ _ _ ⟨Nat.succ_pos _,by omega⟩
 ·intro n10 s6_11 y12_l0;refine Qe (hKb10 _) ?_;try dsimp only
  refine Q.wrapPO fun Kj6 hKj6=>?_;have hj6:∀(y7_l0:Z10),Z45_j6  y7_l0=Kj6 ():=by
   intro y7_l0;refine Qe (hKj6 _) ?_;unfold Z45_j6;all_goals rfl
  all_goals exact hj6 _
 intro e10;refine Qe (hKb10 _) ?_;try dsimp only
 all_goals rfl
def Z104_q (a0:Z2) (a1:Z10):Option Bool:=bif ((!a0.Flit)||(!decide (a1.FKind=(7:Int)))) then(some false) else((Z45_q a0.Fvars a1.FText).bind fun x7=>some (!x7.2))
theorem Z104_eq (a0:Z2) (a1:Z10):Z104 a0 a1=Z104_q a0 a1:=by
 unfold Z104 Z104_q;refine Qs ?_;refine Q.condO ?_ ?_
 ·all_goals rfl
 refine Q.bindO (Z45_eq _ _) fun x7=>?_;all_goals rfl
def Z103_q (a0:Z2) (a1:Int):Z2:=bif (decide (a0.Ferr=(0:Int))) then((Z2.mk a0.Fd a0.Fvars a0.Flit a0.Fcount a1)) else(a0)
theorem Z103_eq (a0:Z2) (a1:Int):Z103 a0 a1=some (Z103_q a0 a1):=by
 unfold Z103 Z103_q;refine Q.condP ?_ ?_
 ·all_goals rfl
 all_goals rfl
def Z105_q (a0:Z2) (a1:Int):Option Z2:=on (bif (decide ((24:Int)<a1)) then(on (Z103_q a0 (5:Int)) fun x10=>x10) else(a0)) fun y2_c0=>(addC y2_c0.Fcount (1:Int)).bind fun x4=>bif (decide ((4096:Int)<x4)) then(on (Z103_q (Z2.mk y2_c0.Fd y2_c0.Fvars y2_c0.Flit x4 y2_c0.Ferr) (4:Int)) fun x7=>some x7) else(some (Z2.mk y2_c0.Fd y2_c0.Fvars y2_c0.Flit x4 y2_c0.Ferr))
theorem Z105_eq (a0:Z2) (a1:Int):Z105 a0 a1=Z105_q a0 a1:=by
 unfold Z105 Z105_q;refine Qs ?_;refine Q.wrapPO fun Kj1 hKj1=>?_;have hj1:∀(y2_c0:Z2),Z105_j1  y2_c0=Kj1 y2_c0:=by
  intro y2_c0;refine Qe (hKj1 _) ?_;unfold Z105_j1;refine Q.bindO rfl fun x4=>?_;refine Q.condO ?_ ?_
  ·refine Q.bindPO (Z103_eq _ _) fun x7 hx_x7=>?_;all_goals rfl
  all_goals rfl
 refine Q.condP ?_ ?_
 ·refine Q.bindP (Z103_eq _ _) fun x10 hx_x10=>?_;all_goals exact hj1 _
 all_goals exact hj1 _
def Z109_q14 (a2:Int) (k_rec_198:Z2->Z10->Int->Option (Z10×Z2)):List Z10->Z2->Z10->Option ((Z2×Z10))
 | [],y16_c0,y17_l1=>some (y16_c0,y17_l1)
 | h14::r14,y16_c0,y17_l1=>bif (decide (y16_c0.Ferr=(0:Int))) then(on (h14) fun x24=>(addC a2 (1:Int)).bind fun x25=>(k_rec_198 y16_c0 x24 x25).bind fun x26=>(appC 80 y17_l1.FItems (⟨false,[x26.1]⟩:Sl Z10)).bind fun x27=>Z109_q14 a2 k_rec_198 (r14) x26.2 (Z10.mk y17_l1.FKind y17_l1.FInt y17_l1.FText x27.nl x27.l y17_l1.FKeys)) else(some (y16_c0,y17_l1))
theorem Z109_l14_qe {a1:Z10}{a2:Int}{k_rec_198:Z2->Z10->Int->Option (Z10×Z2)}  (Kb14:((Z2×Z10))->Option (Z10×Z2)) (hend:∀(n14:Nat) (s8_15:Nat) (y16_c0:Z2) (y17_l1:Z10),Z109_j9   y16_c0 y17_l1=Kb14 (y16_c0,y17_l1)):∀(n14:Nat) (s8_15:Nat) (y16_c0:Z2) (y17_l1:Z10),(0<n14/\a1.FItems.l.length<s8_15+n14)->Z109_l14 a1 a2 k_rec_198 n14 s8_15 y16_c0 y17_l1=Option.bind (Z109_q14 a2 k_rec_198 (a1.FItems.l.drop s8_15) y16_c0 y17_l1) Kb14:=by
 intro n14;induction n14 with
 | zero=>intro s8_15 y16_c0 y17_l1 hn; exact absurd hn.1 (by omega)
 | succ n14 ih14 =>
  intro s8_15 y16_c0 y17_l1 hn;rw [Z109_l14];by_cases hlt:s8_15<a1.FItems.l.length
  ·obtain⟨h14,hh14⟩:=Qa hlt;rw [Q.drop_of hh14,Z109_q14];refine Q.condAT (Q.ltT hlt) ?_;refine Q.condO ?_ ?_
   ·refine Q.bindPO hh14 fun x24 hx_x24=>?_;refine Q.bindO rfl fun x25=>?_;refine Q.bindO rfl fun x26=>?_;refine Q.bindO rfl fun x27=>?_;all_goals exact ih14 _ _ _ ⟨by omega,by omega⟩
   all_goals exact hend n14 s8_15 y16_c0 y17_l1
  rw [dL (by omega),Z109_q14];refine Q.condAF (Q.ltF hlt) ?_;exact hend n14 s8_15 y16_c0 y17_l1
def Z109_qn:Nat->Z2->Z10->Int->Option (Z10×Z2)
 | 0,_,_,_=>none
 | n+1,a0,a1,a2=>(Z105_q a0 a2).bind fun x3=>(appC 16 ((Z10.mk a1.FKind a1.FInt a1.FText true ([]) (Sl.nil:Sl Bs)).FKeys) a1.FKeys).bind fun x8=>Option.bind (Z109_q14 a2 (Z109_qn n) a1.FItems.l x3 (Z10.mk ((Z10.mk a1.FKind a1.FInt a1.FText true ([]) (Sl.nil:Sl Bs)).FKind) ((Z10.mk a1.FKind a1.FInt a1.FText true ([]) (Sl.nil:Sl Bs)).FInt) ((Z10.mk a1.FKind a1.FInt a1.FText true ([]) (Sl.nil:Sl Bs)).FText) ((Z10.mk a1.FKind a1.FInt a1.FText true ([]) (Sl.nil:Sl Bs)).FItems).nl ((Z10.mk a1.FKind a1.FInt a1.FText true ([]) (Sl.nil:Sl Bs)).FItems).l x8)) fun z14=>on ((z14.1,z14.2)) fun z9=>some (z9.2,z9.1)
theorem Z109_qall:∀n:Nat,Z109_n n=Z109_qn n:=by
 intro n;induction n with
 | zero=>exact(by funext a0 a1 a2; first|rfl|(rw [Z109_n,Z109_qn]))
 | succ n ih =>
  funext a0 a1 a2
  refine Qs ?_;rw [Z109_n,Z109_qn];try rw [ih]
  refine Q.bindO (Z105_eq _ _) fun x3=>?_;refine Q.bindO rfl fun x8=>?_;refine Q.wrapOO fun Kb14 hKb14=>?_;refine Z109_l14_qe  Kb14 ?_ _ _ _ _ ⟨Nat.succ_pos _,by omega⟩;intro n14 s8_15 y16_c0 y17_l1;refine Qe (hKb14 _) ?_;try dsimp only
  refine Q.wrapPO fun Kj9 hKj9=>?_;have hj9:∀(y10_c0:Z2) (y11_l1:Z10),Z109_j9  y10_c0 y11_l1=Kj9 (y10_c0,y11_l1):=by
   intro y10_c0 y11_l1;refine Qe (hKj9 _) ?_;try dsimp only
   unfold Z109_j9;all_goals rfl
  all_goals exact hj9 _ _
def Z109_q (a0:Z2) (a1:Z10) (a2:Int):Option (Z10×Z2):=Z109_qn F0 a0 a1 a2
theorem Z109_eq (a0:Z2) (a1:Z10) (a2:Int):Z109 a0 a1 a2=Z109_q a0 a1 a2:=by
 unfold Z109 Z109_q; rw [(Z109_qall F0)]
def Z42_qn:Nat->Int->Option Bs
 | 0,_=>none
 | n+1,a0=>(subC (48:Int) (Int.tmod a0 (10:Int))).bind fun x3=>bif (decide ((-10:Int)<a0)) then(some (bytesC (⟨false,[(IntKind.wrap .u8 x3)]⟩:Sl Int))) else(((Z42_qn n) (IntKind.wrap .i64 (Int.tdiv a0 (10:Int)))).bind fun x9=>(catC x9 (bytesC (⟨false,[(IntKind.wrap .u8 x3)]⟩:Sl Int))).bind fun x10=>some x10)
theorem Z42_qall:∀n:Nat,Z42_n n=Z42_qn n:=by
 intro n;induction n with
 | zero=>exact(by funext a0; first|rfl|(rw [Z42_n,Z42_qn]))
 | succ n ih =>
  funext a0
  refine Qs ?_;rw [Z42_n,Z42_qn];try rw [ih]
  refine Q.bindO rfl fun x3=>?_;refine Q.condO ?_ ?_
  ·all_goals rfl
  refine Q.bindO rfl fun x9=>?_;refine Q.bindO rfl fun x10=>?_;all_goals rfl
def Z42_q (a0:Int):Option Bs:=Z42_qn F0 a0
theorem Z42_eq (a0:Int):Z42 a0=Z42_q a0:=by
 unfold Z42 Z42_q; rw [(Z42_qall F0)]
def Z38_q (a0:Int):Option Bs:=bif (decide (a0<(0:Int))) then((Z42_q a0).bind fun x6=>(catC ([45]:Bs) x6).bind fun x7=>some x7) else((Z42_q (IntKind.wrap .i64 (0-a0))).bind fun x9=>some x9)
theorem Z38_eq (a0:Int):Z38 a0=Z38_q a0:=by
 unfold Z38 Z38_q;refine Qs ?_;refine Q.condO ?_ ?_
 ·refine Q.bindO (Z42_eq _) fun x6=>?_;refine Q.bindO rfl fun x7=>?_;all_goals rfl
 refine Q.bindO (Z42_eq _) fun x9=>?_;all_goals rfl
end Go.Proofs

namespace Go.Proofs
open Go Go.Ab
def Z108_q (a0:Z2) (a1:Bs) (a2:Z10):Option (Z10×Z2):=bif (((((a1==([73,110,116]:Bs)))&&(decide (a2.FKind=(2:Int))))&&(decide ((-2147483648:Int)<=a2.FInt)))&&(decide (a2.FInt<(2147483648:Int)))) then(some (a2,a0)) else(on (bif (((a1==([83,116,114,105,110,103]:Bs)))&&(decide (a2.FKind=(3:Int)))) then((((a1==([83,116,114,105,110,103]:Bs)))&&(decide (a2.FKind=(3:Int))))) else(bif (((a1==([66,111,111,108,101,97,110]:Bs)))&&(decide (a2.FKind=(1:Int)))) then((((a1==([66,111,111,108,101,97,110]:Bs)))&&(decide (a2.FKind=(1:Int))))) else((((a1==([73,68]:Bs)))&&(decide (a2.FKind=(3:Int))))))) fun s26_11=>bif s26_11 then(some (a2,a0)) else(bif (((a1==([73,68]:Bs)))&&(decide (a2.FKind=(2:Int)))) then((Z38_q a2.FInt).bind fun x17=>some ((Z10.mk (3:Int) (0:Int) x17 true ([]) (Sl.nil:Sl Bs)),a0)) else(on (()) fun _=>on (Z103_q a0 (23:Int)) fun x5=>some ((Z10.mk (0:Int) (0:Int) ([]:Bs) true ([]) (Sl.nil:Sl Bs)),x5))))
theorem Z108_eq (a0:Z2) (a1:Bs) (a2:Z10):Z108 a0 a1 a2=Z108_q a0 a1 a2:=by
 unfold Z108 Z108_q;refine Qs ?_;refine Q.condO ?_ ?_
 ·all_goals rfl
 refine Q.wrapPO fun Kj10 hKj10=>?_;have hj10:∀(s26_11:Bool),Z108_j10 a0 a1 a2 s26_11=Kj10 s26_11:=by
  intro s26_11;refine Qe (hKj10 _) ?_;unfold Z108_j10;refine Q.condO ?_ ?_
  ·all_goals rfl
  refine Q.condO ?_ ?_
  ·refine Q.bindO (Z38_eq _) fun x17=>?_;all_goals rfl
  refine Q.wrapPO fun Kj2 hKj2=>?_;have hj2:∀(y3_l0:Z10),Z108_j2 a0 y3_l0=Kj2 ():=by
   intro y3_l0;refine Qe (hKj2 _) ?_;unfold Z108_j2;refine Q.bindPO (Z103_eq _ _) fun x5 hx_x5=>?_;all_goals rfl
  all_goals exact hj2 _
 refine Q.condP ?_ ?_
 ·all_goals exact hj10 _
 refine Q.condP ?_ ?_
 ·all_goals exact hj10 _
 all_goals exact hj10 _
def Z102_q10 (a0:Z2) (a2:Z10):List Z8->Unit ⊕ ((Z10×Z2))
 | []=>Sum.inl ()
 | h10::r10=>on (h10) fun x19=>bif ((x19.FName==a2.FText)) then(Sum.inr ((Z10.mk (4:Int) (0:Int) a2.FText true ([]) (Sl.nil:Sl Bs)),a0)) else(Z102_q10 a0 a2 (r10) )
theorem Z102_l10_qe {a0:Z2}{a1:TDef}{a2:Z10}  (Kb10:(Unit ⊕ ((Z10×Z2)))->Option (Z10×Z2)) (hend:∀(n10:Nat) (s7_11:Nat) (y12_l0:Z10),Z102_j2 a0  y12_l0=Kb10 (Sum.inl ())) (hret:∀e:(Z10×Z2),some e=Kb10 (Sum.inr e)):∀(n10:Nat) (s7_11:Nat) (y12_l0:Z10),(0<n10/\a1.FMembers.l.length<s7_11+n10)->Z102_l10 a0 a1 a2 n10 s7_11 y12_l0=Kb10 (Z102_q10 a0 a2 (a1.FMembers.l.drop s7_11) ):=by
 intro n10;induction n10 with
 | zero=>intro s7_11 y12_l0 hn; exact absurd hn.1 (by omega)
 | succ n10 ih10 =>
  intro s7_11 y12_l0 hn;rw [Z102_l10];by_cases hlt:s7_11<a1.FMembers.l.length
  ·obtain⟨h10,hh10⟩:=Qa hlt;rw [Q.drop_of hh10,Z102_q10];refine QT hlt ?_;refine Q.bindP hh10 fun x19 hx_x19=>?_;refine Q.condP ?_ ?_
   ·all_goals exact hret _
   all_goals exact ih10 _ _ ⟨by omega,by omega⟩
  rw [dL (by omega),Z102_q10];refine QF hlt ?_;exact hend n10 s7_11 y12_l0
def Z102_q (a0:Z2) (a1:TDef) (a2:Z10):(Z10×Z2):=on (fun(_:Unit)=>on (Z103_q a0 (23:Int)) fun x5=>((Z10.mk (0:Int) (0:Int) ([]:Bs) true ([]) (Sl.nil:Sl Bs)),x5)) fun kj2=>bif ((decide (a2.FKind=(4:Int)))||((decide (a2.FKind=(3:Int)))&&(!a0.Flit))) then(on (Z102_q10 a0 a2 a1.FMembers.l ) fun o10=>match o10 with|Sum.inl _=>(kj2 ())|Sum.inr e10=>(e10)) else(kj2 ())
theorem Z102_eq (a0:Z2) (a1:TDef) (a2:Z10):Z102 a0 a1 a2=some (Z102_q a0 a1 a2):=by
 unfold Z102 Z102_q;refine Q.mixP fun kj2 hkj2=>?_;have hj2:∀(y3_l0:Z10),Z102_j2 a0 y3_l0=some (kj2 ()):=by
  intro y3_l0;unfold Z102_j2;rw [hkj2];try dsimp only
  refine Q.bindP (Z103_eq _ _) fun x5 hx_x5=>?_;all_goals rfl
 refine Q.condP ?_ ?_
 ·refine Q.wrapPP fun Kb10 hKb10=>?_;refine Z102_l10_qe  Kb10 ?_ ?_ _ _ _ ⟨Nat.succ_pos _,by omega⟩
  ·intro n10 s7_11 y12_l0;refine Qe (hKb10 _) ?_;try dsimp only
   all_goals exact hj2 _
  intro e10;refine Qe (hKb10 _) ?_;try dsimp only
  all_goals rfl
 all_goals exact hj2 _
def Z101_q (a0:(Sl Z7)) (a1:Int):Option Bool:=Z101 a0 a1
theorem Z101_eq (a0:(Sl Z7)) (a1:Int):Z101 a0 a1=Z101_q a0 a1:=rfl
def r12_work_list_q12 (a1:TRef) (a3:Int) (k_rec_178:Z2->TRef->Z10->Int->Option (Z10×Z2)):List Z10->Z2->Z10->Option ((Z2×Z10))
 | [],y14_c0,y15_l1=>some (y14_c0,y15_l1)
 | h12::r12,y14_c0,y15_l1=>bif (decide (y14_c0.Ferr=(0:Int))) then(on (h12) fun x22=>(addC a3 (1:Int)).bind fun x23=>(k_rec_178 y14_c0 a1 x22 x23).bind fun x24=>(appC 80 y15_l1.FItems (⟨false,[x24.1]⟩:Sl Z10)).bind fun x25=>r12_work_list_q12 a1 a3 k_rec_178 (r12) x24.2 (Z10.mk y15_l1.FKind y15_l1.FInt y15_l1.FText x25.nl x25.l y15_l1.FKeys)) else(some (y14_c0,y15_l1))
theorem r12_work_list_l12_qe {a1:TRef}{a3:Int}{s9_4:(Sl Z10)}{k_rec_178:Z2->TRef->Z10->Int->Option (Z10×Z2)}  (Kb12:((Z2×Z10))->Option (Z10×Z2)) (hend:∀(n12:Nat) (s11_13:Nat) (y14_c0:Z2) (y15_l1:Z10),r12_work_list_j7   y14_c0 y15_l1=Kb12 (y14_c0,y15_l1)):∀(n12:Nat) (s11_13:Nat) (y14_c0:Z2) (y15_l1:Z10),(0<n12/\s9_4.l.length<s11_13+n12)->r12_work_list_l12 a1 a3 s9_4 k_rec_178 n12 s11_13 y14_c0 y15_l1=Option.bind (r12_work_list_q12 a1 a3 k_rec_178 (s9_4.l.drop s11_13) y14_c0 y15_l1) Kb12:=by
 intro n12;induction n12 with
 | zero=>intro s11_13 y14_c0 y15_l1 hn; exact absurd hn.1 (by omega)
 | succ n12 ih12 =>
  intro s11_13 y14_c0 y15_l1 hn;rw [r12_work_list_l12];by_cases hlt:s11_13<s9_4.l.length
  ·obtain⟨h12,hh12⟩:=Qa hlt;rw [Q.drop_of hh12,r12_work_list_q12];refine Q.condAT (Q.ltT hlt) ?_;refine Q.condO ?_ ?_
   ·refine Q.bindPO hh12 fun x22 hx_x22=>?_;refine Q.bindO rfl fun x23=>?_;refine Q.bindO rfl fun x24=>?_;refine Q.bindO rfl fun x25=>?_;all_goals exact ih12 _ _ _ ⟨by omega,by omega⟩
   all_goals exact hend n12 s11_13 y14_c0 y15_l1
  rw [dL (by omega),r12_work_list_q12];refine Q.condAF (Q.ltF hlt) ?_;exact hend n12 s11_13 y14_c0 y15_l1
def r12_work_object_q58 (a1:TDef):List Bs->Z2->Z2
 | [],y60_c0=>y60_c0
 | h58::r58,y60_c0=>on (h58) fun x68=>on (Z71_q a1.FInputs x68) fun x69=>on (bif (!x69.2) then(on (Z103_q y60_c0 (22:Int)) fun x72=>x72) else(y60_c0)) fun y66_c0=>r12_work_object_q58 a1 (r58) y66_c0
theorem r12_work_object_l58_qe {a1:TDef}{a2:Z10}{a3:Int}{k_rec_178:Z2->TRef->Z10->Int->Option (Z10×Z2)}{k_rec_219:Z2->TRef->Z10->Int->Option (Z10×Z2)}  (Kb58:(Z2)->Option (Z10×Z2)) (hend:∀(n58:Nat) (s9_59:Nat) (y60_c0:Z2),r12_work_object_j8 a1 a2 a3 k_rec_178 k_rec_219 y60_c0=Kb58 y60_c0):∀(n58:Nat) (s9_59:Nat) (y60_c0:Z2),(0<n58/\a2.FKeys.l.length<s9_59+n58)->r12_work_object_l58 a1 a2 a3 k_rec_178 k_rec_219 n58 s9_59 y60_c0=Kb58 (r12_work_object_q58 a1 (a2.FKeys.l.drop s9_59) y60_c0):=by
 intro n58;induction n58 with
 | zero=>intro s9_59 y60_c0 hn; exact absurd hn.1 (by omega)
 | succ n58 ih58 =>
  intro s9_59 y60_c0 hn;rw [r12_work_object_l58];by_cases hlt:s9_59<a2.FKeys.l.length
  ·obtain⟨h58,hh58⟩:=Qa hlt;rw [Q.drop_of hh58,r12_work_object_q58];refine QT hlt ?_;refine Q.bindP hh58 fun x68 hx_x68=>?_;refine Q.bindP (Z71_eq _ _) fun x69 hx_x69=>?_;refine Q.wrapPP fun Kj65 hKj65=>?_;have hj65:∀(y66_c0:Z2),r12_work_object_j65 s9_59 (r12_work_object_l58 a1 a2 a3 k_rec_178 k_rec_219 n58) y66_c0=Kj65 y66_c0:=by
    intro y66_c0;refine Qe (hKj65 _) ?_;unfold r12_work_object_j65;all_goals exact ih58 _ _ ⟨by omega,by omega⟩
   refine Q.condP ?_ ?_
   ·refine Q.bindP (Z103_eq _ _) fun x72 hx_x72=>?_;all_goals exact hj65 _
   all_goals exact hj65 _
  rw [dL (by omega),r12_work_object_q58];refine QF hlt ?_;exact hend n58 s9_59 y60_c0
def r12_work_object_q18 (a1:TDef) (a2:Z10) (a3:Int) (k_rec_178:Z2->TRef->Z10->Int->Option (Z10×Z2)) (k_rec_219:Z2->TRef->Z10->Int->Option (Z10×Z2)):List Z7->Nat->Z2->Z10->Option ((Z2×Z10))
 | [],s13_19,y20_c0,y21_l1=>some (y20_c0,y21_l1)
 | h18::r18,s13_19,y20_c0,y21_l1=>bif (decide (y20_c0.Ferr=(0:Int))) then(on (h18) fun x30=>(Z101_q a1.FInputs ((s13_19:Nat):Int)).bind fun x33=>Option.bind (bif x33 then(some (y20_c0,y21_l1)) else((Z45_q a2 x30.FName).bind fun x36=>guardO (x36.2) (Z104_q y20_c0 x36.1) false fun x45=>on (fun(y39_c0:Z2) (y40_l2:Z10)=>(appC 16 y21_l1.FKeys (⟨false,[x30.FName]⟩:Sl Bs)).bind fun x42=>(appC 80 y21_l1.FItems (⟨false,[y40_l2]⟩:Sl Z10)).bind fun x43=>some (y39_c0,(Z10.mk y21_l1.FKind y21_l1.FInt y21_l1.FText x43.nl x43.l x42))) fun kj38=>bif (x36.2&&(!x45)) then((addC a3 (1:Int)).bind fun x47=>(k_rec_178 y20_c0 x30.FType x36.1 x47).bind fun x48=>kj38 x48.2 x48.1) else(bif x30.FHas then((addC a3 (1:Int)).bind fun x51=>(k_rec_219 y20_c0 x30.FType x30.FDefault x51).bind fun x52=>kj38 x52.2 x52.1) else(on (Z54_q x30.FType) fun x54=>bif x54 then(on (Z103_q y20_c0 (22:Int)) fun x56=>kj38 x56 Z10.zero) else(some (y20_c0,y21_l1)))))) fun z26=>r12_work_object_q18 a1 a2 a3 k_rec_178 k_rec_219 (r18) (s13_19+1) z26.1 z26.2) else(some (y20_c0,y21_l1))
theorem r12_work_object_l18_qe {a1:TDef}{a2:Z10}{a3:Int}{k_rec_178:Z2->TRef->Z10->Int->Option (Z10×Z2)}{k_rec_219:Z2->TRef->Z10->Int->Option (Z10×Z2)}  (Kb18:((Z2×Z10))->Option (Z10×Z2)) (hend:∀(n18:Nat) (s13_19:Nat) (y20_c0:Z2) (y21_l1:Z10),r12_work_object_j13   y20_c0 y21_l1=Kb18 (y20_c0,y21_l1)):∀(n18:Nat) (s13_19:Nat) (y20_c0:Z2) (y21_l1:Z10),(0<n18/\a1.FInputs.l.length<s13_19+n18)->r12_work_object_l18 a1 a2 a3 k_rec_178 k_rec_219 n18 s13_19 y20_c0 y21_l1=Option.bind (r12_work_object_q18 a1 a2 a3 k_rec_178 k_rec_219 (a1.FInputs.l.drop s13_19) s13_19 y20_c0 y21_l1) Kb18:=by
 intro n18;induction n18 with
 | zero=>intro s13_19 y20_c0 y21_l1 hn; exact absurd hn.1 (by omega)
 | succ n18 ih18 =>
  intro s13_19 y20_c0 y21_l1 hn;rw [r12_work_object_l18];by_cases hlt:s13_19<a1.FInputs.l.length
  ·obtain⟨h18,hh18⟩:=Qa hlt;rw [Q.drop_of hh18,r12_work_object_q18];refine Q.condAT (Q.ltT hlt) ?_;refine Q.condO ?_ ?_
   ·refine Q.bindPO hh18 fun x30 hx_x30=>?_;refine Q.bindO (Z101_eq _ _) fun x33=>?_;refine Q.wrapOO fun Kj26 hKj26=>?_;have hj26:∀(y27_c0:Z2) (y28_l1:Z10),r12_work_object_j26 s13_19 (r12_work_object_l18 a1 a2 a3 k_rec_178 k_rec_219 n18) y27_c0 y28_l1=Kj26 (y27_c0,y28_l1):=by
     intro y27_c0 y28_l1;refine Qe (hKj26 _) ?_;try dsimp only
     unfold r12_work_object_j26;all_goals exact ih18 _ _ _ ⟨by omega,by omega⟩
    refine Q.condO ?_ ?_
    ·all_goals exact hj26 _ _
    refine Q.bindO (Z45_eq _ _) fun x36=>?_;refine Q.guardOO (Z104_eq _ _) fun x45=>?_;refine Q.mixO fun kj38 hkj38=>?_;have hj38:∀(y39_c0:Z2) (y40_l2:Z10),r12_work_object_j38 s13_19 y21_l1 x30 (r12_work_object_l18 a1 a2 a3 k_rec_178 k_rec_219 n18) y39_c0 y40_l2=Option.bind (kj38 y39_c0 y40_l2) Kj26:=by
     intro y39_c0 y40_l2;unfold r12_work_object_j38;rw [hkj38];try dsimp only
     refine Q.bindO rfl fun x42=>?_;refine Q.bindO rfl fun x43=>?_;all_goals exact hj26 _ _
    refine Q.condO ?_ ?_
    ·refine Q.bindO rfl fun x47=>?_;refine Q.bindO rfl fun x48=>?_;all_goals exact hj38 _ _
    refine Q.condO ?_ ?_
    ·refine Q.bindO rfl fun x51=>?_;refine Q.bindO rfl fun x52=>?_;all_goals exact hj38 _ _
    refine Q.bindPO (Z54_eq _) fun x54 hx_x54=>?_;refine Q.condO ?_ ?_
    ·refine Q.bindPO (Z103_eq _ _) fun x56 hx_x56=>?_;all_goals exact hj38 _ _
    all_goals exact hj26 _ _
   all_goals exact hend n18 s13_19 y20_c0 y21_l1
  rw [dL (by omega),r12_work_object_q18];refine Q.condAF (Q.ltF hlt) ?_;exact hend n18 s13_19 y20_c0 y21_l1
mutual
def r12_work_coerce_qn:Nat->Z2->TRef->Z10->Int->Option (Z10×Z2)
 | 0,_,_,_,_=>none
 | n+1,a0,a1,a2,a3=>on (Z72_q a0.Fd a1.FName) fun x4=>bif (!x4) then(on (Z103_q a0 (10:Int)) fun x7=>some ((Z10.mk (0:Int) (0:Int) ([]:Bs) true ([]) (Sl.nil:Sl Bs)),x7)) else(on (fun(y10_c0:Z2) (y11_l0:Z10)=>(Z105_q y10_c0 a3).bind fun x14=>bif (!decide (x14.Ferr=(0:Int))) then(some ((Z10.mk (0:Int) (0:Int) ([]:Bs) true ([]) (Sl.nil:Sl Bs)),x14)) else(bif (decide (y11_l0.FKind=(0:Int))) then(on (Z54_q a1) fun x26=>on (bif x26 then(on (Z103_q x14 (23:Int)) fun x28=>x28) else(x14)) fun y23_c0=>some ((Z10.mk (0:Int) (0:Int) ([]:Bs) true ([]) (Sl.nil:Sl Bs)),y23_c0)) else((Z52_q a1).bind fun x31=>bif x31.2 then(((r12_work_list_qn n) x14 x31.1 y11_l0 a3).bind fun x35=>some (x35.1,x35.2)) else(on (Z74_q a1.FName) fun x38=>bif x38 then((Z108_q x14 a1.FName y11_l0).bind fun x41=>some (x41.1,x41.2)) else(on (Z70_q x14.Fd a1.FName) fun x43=>bif (decide (x43.1.FKind=(4:Int))) then(on (Z102_q x14 x43.1 y11_l0) fun x48=>some (x48.1,x48.2)) else(((r12_work_object_qn n) x14 x43.1 y11_l0 a3).bind fun x50=>some (x50.1,x50.2))))))) fun kj9=>bif (a0.Flit&&(decide (a2.FKind=(7:Int)))) then((Z45_q a0.Fvars a2.FText).bind fun x54=>bif (!decide (x54.1.FKind=(0:Int))) then((Z109_q a0 x54.1 a3).bind fun x59=>some (x59.1,x59.2)) else(kj9 a0 (Z10.mk (0:Int) (0:Int) ([]:Bs) true ([]) (Sl.nil:Sl Bs)))) else(kj9 a0 a2))
def r12_work_list_qn:Nat->Z2->TRef->Z10->Int->Option (Z10×Z2)
 | 0,_,_,_,_=>none
 | n+1,a0,a1,a2,a3=>on (bif (decide (a2.FKind=(5:Int))) then(a2.FItems) else((⟨false,[a2]⟩:Sl Z10))) fun s9_4=>Option.bind (r12_work_list_q12 a1 a3 (r12_work_coerce_qn n) s9_4.l a0 (Z10.mk (5:Int) (0:Int) ([]:Bs) true ([]) (Sl.nil:Sl Bs))) fun z12=>on ((z12.1,z12.2)) fun z7=>some (z7.2,z7.1)
def r12_work_object_qn:Nat->Z2->TDef->Z10->Int->Option (Z10×Z2)
 | 0,_,_,_,_=>none
 | n+1,a0,a1,a2,a3=>bif (!decide (a2.FKind=(6:Int))) then(on (Z103_q a0 (23:Int)) fun x6=>some ((Z10.mk (0:Int) (0:Int) ([]:Bs) true ([]) (Sl.nil:Sl Bs)),x6)) else(on (r12_work_object_q58 a1 a2.FKeys.l a0) fun y60_c0=>on (y60_c0) fun y9_c0=>Option.bind (r12_work_object_q18 a1 a2 a3 (r12_work_coerce_qn n) (Z106_qn n) a1.FInputs.l 0 y9_c0 (Z10.mk (6:Int) (0:Int) ([]:Bs) true ([]) (Sl.nil:Sl Bs))) fun z18=>on ((z18.1,z18.2)) fun z13=>some (z13.2,z13.1))
def Z106_qn:Nat->Z2->TRef->Z10->Int->Option (Z10×Z2)
 | 0,_,_,_,_=>none
 | n+1,a0,a1,a2,a3=>((r12_work_coerce_qn n) (Z2.mk a0.Fd (Z10.mk (0:Int) (0:Int) ([]:Bs) true ([]) (Sl.nil:Sl Bs)) true a0.Fcount a0.Ferr) a1 a2 a3).bind fun x5=>some (x5.1,(Z2.mk x5.2.Fd a0.Fvars a0.Flit x5.2.Fcount x5.2.Ferr))
end
theorem r12_work_coerce_qall:∀n:Nat,r12_work_coerce_n n=r12_work_coerce_qn n/\r12_work_list_n n=r12_work_list_qn n/\r12_work_object_n n=r12_work_object_qn n/\Z106_n n=Z106_qn n:=by
 intro n;induction n with
 | zero=>exact⟨(by funext a0 a1 a2 a3; first|rfl|(rw [r12_work_coerce_n,r12_work_coerce_qn])),(by funext a0 a1 a2 a3; first|rfl|(rw [r12_work_list_n,r12_work_list_qn])),(by funext a0 a1 a2 a3; first|rfl|(rw [r12_work_object_n,r12_work_object_qn])),(by funext a0 a1 a2 a3; first|rfl|(rw [Z106_n,Z106_qn]))⟩
 | succ n ih =>
  refine⟨?_, ?_, ?_, ?_⟩
  ·funext a0 a1 a2 a3
   refine Qs ?_;rw [r12_work_coerce_n,r12_work_coerce_qn];try rw [ih.1]
   try rw [ih.2.1]
   try rw [ih.2.2.1]
   try rw [ih.2.2.2]
   refine Q.bindPO (Z72_eq _ _) fun x4 hx_x4=>?_;refine Q.condO ?_ ?_
   ·refine Q.bindPO (Z103_eq _ _) fun x7 hx_x7=>?_;all_goals rfl
   refine Q.mixO fun kj9 hkj9=>?_;have hj9:∀(y10_c0:Z2) (y11_l0:Z10) (y12_l1:Z10),r12_work_coerce_j9 a1 a3 (r12_work_list_qn n) (r12_work_object_qn n) y10_c0 y11_l0 y12_l1=Option.bind (kj9 y10_c0 y11_l0) some:=by
    intro y10_c0 y11_l0 y12_l1;unfold r12_work_coerce_j9;rw [hkj9];try dsimp only
    refine Q.bindO (Z105_eq _ _) fun x14=>?_;refine Q.condO ?_ ?_
    ·all_goals rfl
    refine Q.condO ?_ ?_
    ·refine Q.bindPO (Z54_eq _) fun x26 hx_x26=>?_;refine Q.wrapPO fun Kj22 hKj22=>?_;have hj22:∀(y23_c0:Z2),r12_work_coerce_j22  y23_c0=Kj22 y23_c0:=by
      intro y23_c0;refine Qe (hKj22 _) ?_;unfold r12_work_coerce_j22;all_goals rfl
     refine Q.condP ?_ ?_
     ·refine Q.bindP (Z103_eq _ _) fun x28 hx_x28=>?_;all_goals exact hj22 _
     all_goals exact hj22 _
    refine Q.bindO (Z52_eq _) fun x31=>?_;refine Q.condO ?_ ?_
    ·refine Q.bindO rfl fun x35=>?_;all_goals rfl
    refine Q.bindPO (Z74_eq _) fun x38 hx_x38=>?_;refine Q.condO ?_ ?_
    ·refine Q.bindO (Z108_eq _ _ _) fun x41=>?_;all_goals rfl
    refine Q.bindPO (Z70_eq _ _) fun x43 hx_x43=>?_;refine Q.condO ?_ ?_
    ·refine Q.bindPO (Z102_eq _ _ _) fun x48 hx_x48=>?_;all_goals rfl
    refine Q.bindO rfl fun x50=>?_;all_goals rfl
   refine Q.condO ?_ ?_
   ·refine Q.bindO (Z45_eq _ _) fun x54=>?_;refine Q.condO ?_ ?_
    ·refine Q.bindO (Z109_eq _ _ _) fun x59=>?_;all_goals rfl
    all_goals exact hj9 _ _ _
   all_goals exact hj9 _ _ _
  ·funext a0 a1 a2 a3
   refine Qs ?_;rw [r12_work_list_n,r12_work_list_qn];try rw [ih.1]
   try rw [ih.2.1]
   try rw [ih.2.2.1]
   try rw [ih.2.2.2]
   refine Q.wrapPO fun Kj3 hKj3=>?_;have hj3:∀(s9_4:(Sl Z10)),r12_work_list_j3 a0 a1 a3 (r12_work_coerce_qn n) s9_4=Kj3 s9_4:=by
    intro s9_4;refine Qe (hKj3 _) ?_;unfold r12_work_list_j3;refine Q.wrapOO fun Kb12 hKb12=>?_;refine r12_work_list_l12_qe  Kb12 ?_ _ _ _ _ ⟨Nat.succ_pos _,by omega⟩;intro n12 s11_13 y14_c0 y15_l1;refine Qe (hKb12 _) ?_;try dsimp only
    refine Q.wrapPO fun Kj7 hKj7=>?_;have hj7:∀(y8_c0:Z2) (y9_l1:Z10),r12_work_list_j7  y8_c0 y9_l1=Kj7 (y8_c0,y9_l1):=by
     intro y8_c0 y9_l1;refine Qe (hKj7 _) ?_;try dsimp only
     unfold r12_work_list_j7;all_goals rfl
    all_goals exact hj7 _ _
   refine Q.condP ?_ ?_
   ·all_goals exact hj3 _
   all_goals exact hj3 _
  ·funext a0 a1 a2 a3
   refine Qs ?_;rw [r12_work_object_n,r12_work_object_qn];try rw [ih.1]
   try rw [ih.2.1]
   try rw [ih.2.2.1]
   try rw [ih.2.2.2]
   refine Q.condO ?_ ?_
   ·refine Q.bindPO (Z103_eq _ _) fun x6 hx_x6=>?_;all_goals rfl
   refine Q.wrapPO fun Kb58 hKb58=>?_;refine r12_work_object_l58_qe  Kb58 ?_ _ _ _ ⟨Nat.succ_pos _,by omega⟩;intro n58 s9_59 y60_c0;refine Qe (hKb58 _) ?_;refine Q.wrapPO fun Kj8 hKj8=>?_;have hj8:∀(y9_c0:Z2),r12_work_object_j8 a1 a2 a3 (r12_work_coerce_qn n) (Z106_qn n) y9_c0=Kj8 y9_c0:=by
    intro y9_c0;refine Qe (hKj8 _) ?_;unfold r12_work_object_j8;refine Q.wrapOO fun Kb18 hKb18=>?_;refine r12_work_object_l18_qe  Kb18 ?_ _ _ _ _ ⟨Nat.succ_pos _,by omega⟩;intro n18 s13_19 y20_c0 y21_l1;refine Qe (hKb18 _) ?_;try dsimp only
    refine Q.wrapPO fun Kj13 hKj13=>?_;have hj13:∀(y14_c0:Z2) (y15_l1:Z10),r12_work_object_j13  y14_c0 y15_l1=Kj13 (y14_c0,y15_l1):=by
     intro y14_c0 y15_l1;refine Qe (hKj13 _) ?_;try dsimp only
     unfold r12_work_object_j13;all_goals rfl
    all_goals exact hj13 _ _
   all_goals exact hj8 _
  funext a0 a1 a2 a3
  refine Qs ?_;rw [Z106_n,Z106_qn];try rw [ih.1]
  try rw [ih.2.1]
  try rw [ih.2.2.1]
  try rw [ih.2.2.2]
  refine Q.bindO rfl fun x5=>?_;all_goals rfl
def r12_work_coerce_q (a0:Z2) (a1:TRef) (a2:Z10) (a3:Int):Option (Z10×Z2):=r12_work_coerce_qn F0 a0 a1 a2 a3
theorem r12_work_coerce_eq (a0:Z2) (a1:TRef) (a2:Z10) (a3:Int):r12_work_coerce a0 a1 a2 a3=r12_work_coerce_q a0 a1 a2 a3:=by
 unfold r12_work_coerce r12_work_coerce_q; rw [(r12_work_coerce_qall F0).1]
def Z107_q (a0:Z2) (a1:TRef) (a2:Z10):Option (Z10×Int×Z2):=(r12_work_coerce_q a0 a1 a2 (1:Int)).bind fun x3=>bif (!decide (x3.2.Ferr=(0:Int))) then(some ((Z10.mk (0:Int) (0:Int) ([]:Bs) true ([]) (Sl.nil:Sl Bs)),x3.2.Ferr,x3.2)) else(some (x3.1,(0:Int),x3.2))
theorem Z107_eq (a0:Z2) (a1:TRef) (a2:Z10):Z107 a0 a1 a2=Z107_q a0 a1 a2:=by
 unfold Z107 Z107_q;refine Qs ?_;refine Q.bindO (r12_work_coerce_eq _ _ _ _) fun x3=>?_;refine Q.condO ?_ ?_
 ·all_goals rfl
 all_goals rfl
def Z99_q (a0:TDoc) (a1:TRef) (a2:Z10) (a3:Z10):Option (Z10×Int):=on (Z72_q a0 a1.FName) fun x6=>guardO (x6) (Z104_q (Z2.mk a0 a3 true (0:Int) (0:Int)) a2) false fun x7=>bif (x6&&x7) then(some ((Z10.mk (0:Int) (0:Int) ([]:Bs) true ([]) (Sl.nil:Sl Bs)),(8:Int))) else((Z107_q (Z2.mk a0 a3 true (0:Int) (0:Int)) a1 a2).bind fun x11=>some (x11.1,x11.2.1))
theorem Z99_eq (a0:TDoc) (a1:TRef) (a2:Z10) (a3:Z10):Z99 a0 a1 a2 a3=Z99_q a0 a1 a2 a3:=by
 unfold Z99 Z99_q;refine Qs ?_;refine Q.bindPO (Z72_eq _ _) fun x6 hx_x6=>?_;refine Q.guardOO (Z104_eq _ _) fun x7=>?_;refine Q.condO ?_ ?_
 ·all_goals rfl
 refine Q.bindO (Z107_eq _ _ _) fun x11=>?_;all_goals rfl
def Z100_q7 (a0:TDoc) (a2:Bs) (a3:Bs) (a4:Bs):List Z7->(Sl Z4)->Option ((Sl Z4))
 | [],s11_8=>some s11_8
 | h7::r7,s11_8=>on (h7) fun x18=>Option.bind (bif (!x18.FHas) then(some s11_8) else(on (h7) fun x21=>on (h7) fun x22=>(Z99_q a0 x21.FType x22.FDefault (Z10.mk (0:Int) (0:Int) ([]:Bs) true ([]) (Sl.nil:Sl Bs))).bind fun x23=>bif (!decide (x23.2=(0:Int))) then((catC a2 a3).bind fun x26=>on (h7) fun x27=>(catC x26 x27.FName).bind fun x28=>(catC x28 a4).bind fun x29=>(appC 24 s11_8 (⟨false,[(Z4.mk (23:Int) x29)]⟩:Sl Z4)).bind fun x30=>some x30) else(some s11_8))) fun s11_15=>Z100_q7 a0 a2 a3 a4 (r7) s11_15
theorem Z100_l7_qe {a0:TDoc}{a1:(Sl Z7)}{a2:Bs}{a3:Bs}{a4:Bs}  (Kb7:((Sl Z4))->Option (Sl Z4)) (hend:∀(n7:Nat) (s11_8:(Sl Z4)) (s12_9:Nat),Z100_j3   s11_8=Kb7 s11_8):∀(n7:Nat) (s11_8:(Sl Z4)) (s12_9:Nat),(0<n7/\a1.l.length<s12_9+n7)->Z100_l7 a0 a1 a2 a3 a4 n7 s11_8 s12_9=Option.bind (Z100_q7 a0 a2 a3 a4 (a1.l.drop s12_9) s11_8) Kb7:=by
 intro n7;induction n7 with
 | zero=>intro s11_8 s12_9 hn; exact absurd hn.1 (by omega)
 | succ n7 ih7 =>
  intro s11_8 s12_9 hn;rw [Z100_l7];by_cases hlt:s12_9<a1.l.length
  ·obtain⟨h7,hh7⟩:=Qa hlt;rw [Q.drop_of hh7,Z100_q7];refine QT hlt ?_;refine Q.bindPO hh7 fun x18 hx_x18=>?_;refine Q.wrapOO fun Kj14 hKj14=>?_;have hj14:∀(s11_15:(Sl Z4)),Z100_j14 s12_9 (Z100_l7 a0 a1 a2 a3 a4 n7) s11_15=Kj14 s11_15:=by
    intro s11_15;refine Qe (hKj14 _) ?_;unfold Z100_j14;all_goals exact ih7 _ _ ⟨by omega,by omega⟩
   refine Q.condO ?_ ?_
   ·all_goals exact hj14 _
   refine Q.bindPO hh7 fun x21 hx_x21=>?_;refine Q.bindPO hh7 fun x22 hx_x22=>?_;refine Q.bindO (Z99_eq _ _ _ _) fun x23=>?_;refine Q.condO ?_ ?_
   ·refine Q.bindO rfl fun x26=>?_;refine Q.bindPO hh7 fun x27 hx_x27=>?_;refine Q.bindO rfl fun x28=>?_;refine Q.bindO rfl fun x29=>?_;refine Q.bindO rfl fun x30=>?_;all_goals exact hj14 _
   all_goals exact hj14 _
  rw [dL (by omega),Z100_q7];refine QF hlt ?_;exact hend n7 s11_8 s12_9
def Z100_q (a0:TDoc) (a1:(Sl Z7)) (a2:Bs) (a3:Bs) (a4:Bs):Option (Sl Z4):=Option.bind (Z100_q7 a0 a2 a3 a4 a1.l (Sl.nil:Sl Z4)) fun s11_8=>on (s11_8) fun s11_4=>some s11_4
theorem Z100_eq (a0:TDoc) (a1:(Sl Z7)) (a2:Bs) (a3:Bs) (a4:Bs):Z100 a0 a1 a2 a3 a4=Z100_q a0 a1 a2 a3 a4:=by
 unfold Z100 Z100_q;refine Qs ?_;refine Q.wrapOO fun Kb7 hKb7=>?_;refine Z100_l7_qe  Kb7 ?_ _ _ _ ⟨Nat.succ_pos _,by omega⟩;intro n7 s11_8 s12_9;refine Qe (hKb7 _) ?_;refine Q.wrapPO fun Kj3 hKj3=>?_;have hj3:∀(s11_4:(Sl Z4)),Z100_j3  s11_4=Kj3 s11_4:=by
  intro s11_4;refine Qe (hKj3 _) ?_;unfold Z100_j3;all_goals rfl
 all_goals exact hj3 _
def Z98_q23 (a0:TDoc) (x17:TDef):List Z5->(Sl Z4)->Option ((Sl Z4))
 | [],s3_24=>some s3_24
 | h23::r23,s3_24=>on (h23) fun x31=>(catC x17.FName ([46]:Bs)).bind fun x32=>on (h23) fun x33=>(catC x32 x33.FName).bind fun x34=>(Z100_q a0 x31.FArgs x34 ([40]:Bs) ([41]:Bs)).bind fun x35=>(appC 24 s3_24 x35).bind fun x36=>Z98_q23 a0 x17 (r23) x36
theorem Z98_l23_qe {a0:TDoc}{s4_9:Nat}{x17:TDef}{k_next_7:(Sl Z4)->Nat->Option (Sl Z4)}  (Kb23:((Sl Z4))->Option (Sl Z4)) (hend:∀(n23:Nat) (s3_24:(Sl Z4)) (s6_25:Nat),Z98_j18 a0 s4_9 x17 k_next_7 s3_24=Kb23 s3_24):∀(n23:Nat) (s3_24:(Sl Z4)) (s6_25:Nat),(0<n23/\x17.FFields.l.length<s6_25+n23)->Z98_l23 a0 s4_9 x17 k_next_7 n23 s3_24 s6_25=Option.bind (Z98_q23 a0 x17 (x17.FFields.l.drop s6_25) s3_24) Kb23:=by
 intro n23;induction n23 with
 | zero=>intro s3_24 s6_25 hn; exact absurd hn.1 (by omega)
 | succ n23 ih23 =>
  intro s3_24 s6_25 hn;rw [Z98_l23];by_cases hlt:s6_25<x17.FFields.l.length
  ·obtain⟨h23,hh23⟩:=Qa hlt;rw [Q.drop_of hh23,Z98_q23];refine QT hlt ?_;refine Q.bindPO hh23 fun x31 hx_x31=>?_;refine Q.bindO rfl fun x32=>?_;refine Q.bindPO hh23 fun x33 hx_x33=>?_;refine Q.bindO rfl fun x34=>?_;refine Q.bindO (Z100_eq _ _ _ _ _) fun x35=>?_;refine Q.bindO rfl fun x36=>?_;all_goals exact ih23 _ _ ⟨by omega,by omega⟩
  rw [dL (by omega),Z98_q23];refine QF hlt ?_;exact hend n23 s3_24 s6_25
def Z98_q7 (a0:TDoc):List TDef->(Sl Z4)->Option ((Sl Z4))
 | [],s3_8=>some s3_8
 | h7::r7,s3_8=>on (h7) fun x17=>Option.bind (Z98_q23 a0 x17 x17.FFields.l s3_8) fun s3_24=>on (s3_24) fun s3_19=>(Z100_q a0 x17.FInputs x17.FName ([46]:Bs) ([]:Bs)).bind fun x20=>(appC 24 s3_19 x20).bind fun x21=>on (x21) fun s3_15=>Z98_q7 a0 (r7) s3_15
theorem Z98_l7_qe {a0:TDoc}  (Kb7:((Sl Z4))->Option (Sl Z4)) (hend:∀(n7:Nat) (s3_8:(Sl Z4)) (s4_9:Nat),Z98_j3   s3_8=Kb7 s3_8):∀(n7:Nat) (s3_8:(Sl Z4)) (s4_9:Nat),(0<n7/\a0.FDefs.l.length<s4_9+n7)->Z98_l7 a0 n7 s3_8 s4_9=Option.bind (Z98_q7 a0 (a0.FDefs.l.drop s4_9) s3_8) Kb7:=by
 intro n7;induction n7 with
 | zero=>intro s3_8 s4_9 hn; exact absurd hn.1 (by omega)
 | succ n7 ih7 =>
  intro s3_8 s4_9 hn;rw [Z98_l7];by_cases hlt:s4_9<a0.FDefs.l.length
  ·obtain⟨h7,hh7⟩:=Qa hlt;rw [Q.drop_of hh7,Z98_q7];refine QT hlt ?_;refine Q.bindPO hh7 fun x17 hx_x17=>?_;refine Q.wrapOO fun Kb23 hKb23=>?_;refine Z98_l23_qe  Kb23 ?_ _ _ _ ⟨Nat.succ_pos _,by omega⟩;intro n23 s3_24 s6_25;refine Qe (hKb23 _) ?_;refine Q.wrapPO fun Kj18 hKj18=>?_;have hj18:∀(s3_19:(Sl Z4)),Z98_j18 a0 s4_9 x17 (Z98_l7 a0 n7) s3_19=Kj18 s3_19:=by
    intro s3_19;refine Qe (hKj18 _) ?_;unfold Z98_j18;refine Q.bindO (Z100_eq _ _ _ _ _) fun x20=>?_;refine Q.bindO rfl fun x21=>?_;refine Q.wrapPO fun Kj14 hKj14=>?_;have hj14:∀(s3_15:(Sl Z4)),Z98_j14 s4_9 (Z98_l7 a0 n7) s3_15=Kj14 s3_15:=by
     intro s3_15;refine Qe (hKj14 _) ?_;unfold Z98_j14;all_goals exact ih7 _ _ ⟨by omega,by omega⟩
    all_goals exact hj14 _
   all_goals exact hj18 _
  rw [dL (by omega),Z98_q7];refine QF hlt ?_;exact hend n7 s3_8 s4_9
def Z98_q (a0:TDoc):Option (Sl Z4):=Option.bind (Z98_q7 a0 a0.FDefs.l (Sl.nil:Sl Z4)) fun s3_8=>on (s3_8) fun s3_4=>some s3_4
theorem Z98_eq (a0:TDoc):Z98 a0=Z98_q a0:=by
 unfold Z98 Z98_q;refine Qs ?_;refine Q.wrapOO fun Kb7 hKb7=>?_;refine Z98_l7_qe  Kb7 ?_ _ _ _ ⟨Nat.succ_pos _,by omega⟩;intro n7 s3_8 s4_9;refine Qe (hKb7 _) ?_;refine Q.wrapPO fun Kj3 hKj3=>?_;have hj3:∀(s3_4:(Sl Z4)),Z98_j3  s3_4=Kj3 s3_4:=by
  intro s3_4;refine Qe (hKj3 _) ?_;unfold Z98_j3;all_goals rfl
 all_goals exact hj3 _
def Z111_q (a0:TDoc):Option (Sl Z4):=(Z68_q a0 true).bind fun x3=>bif (decide ((0:Int)<((x3.l.length:Nat):Int))) then(some x3) else((Z87_q a0).bind fun x10=>(appC 24 x3 x10).bind fun x11=>(Z98_q a0).bind fun x13=>(appC 24 x11 x13).bind fun x14=>some x14)
theorem Z111_eq (a0:TDoc):Z111 a0=Z111_q a0:=by
 unfold Z111 Z111_q;refine Qs ?_;refine Q.bindO (Z68_eq _ _) fun x3=>?_;refine Q.condO ?_ ?_
 ·all_goals rfl
 refine Q.bindO (Z87_eq _) fun x10=>?_;refine Q.bindO rfl fun x11=>?_;refine Q.bindO (Z98_eq _) fun x13=>?_;refine Q.bindO rfl fun x14=>?_;all_goals rfl
def Z35_q (a0:TDoc):Option Bool:=(Z60_q a0).bind fun x4=>bif (!x4) then((Z36).bind fun x7=>some x7) else((Z149_q a0).bind fun x9=>(Z111_q a0).bind fun x10=>(Z110_q x9 x10).bind fun x11=>guardO (x11) (Z36) false fun x12=>some (x11&&x12))
theorem Z35_eq (a0:TDoc):Z35 a0=Z35_q a0:=by
 unfold Z35 Z35_q;refine Qs ?_;refine Q.bindO (Z60_eq _) fun x4=>?_;refine Q.condO ?_ ?_
 ·refine Q.bindO rfl fun x7=>?_;all_goals rfl
 refine Q.bindO (Z149_eq _) fun x9=>?_;refine Q.bindO (Z111_eq _) fun x10=>?_;refine Q.bindO (Z110_eq _ _) fun x11=>?_;refine Q.guardOO rfl fun x12=>?_;all_goals rfl
end Go.Proofs

namespace Go.Proofs
open Go Go.Ab
theorem Z56_loop (a:TRef) (ha:a.FWraps.l.length<=1048576) (l:List Int) (i:Nat) (h:i+l.length=a.FWraps.l.length):Ok (Z56_q10 a l i):=by
 induction l generalizing i with
 | nil=>exact Tot.some _
 | cons x r ih =>
  simp only [List.length_cons] at h;have hr:=ih (i+1) (by omega);rw [Z56_q10];simp only [on];refine Tot.cond (fun _=>Tot.some _) fun _=>?_;by_cases hi:0<i
  ·have h1:decide ((0:Int)<((i:Nat):Int))=true:=by simpa using hi
   obtain⟨v,hv⟩:=idxC_ok (l:=a.FWraps.l) (n:=(i:Int)-1) (by omega);simp only [h1,cond_true,Bool.true_and,subC_ok (a:=(i:Int)) (b:=1) (by omega)];cases decide (x=1)<;>simp only [guardO,hv,if_true,Option.bind_some,Bool.false_eq_true,if_false,Bool.false_and,cond_false]
   ·exact hr
   ·(repeat' (first|exact Tot.some _|assumption|(with_reducible refine Tot.bind ?_ fun _ _=>?_)|(with_reducible refine Tot.guard (fun _=>?_) fun _ _ _=>?_)|(with_reducible refine Tot.cond (fun _=>?_) fun _=>?_)|(with_reducible refine Tot.on fun _ _=>?_)|split))
  ·have h1:decide ((0:Int)<((i:Nat):Int))=false:=by simpa using hi
   simp only [h1,Bool.false_and,guardO,Bool.false_eq_true,if_false,cond_false];exact hr
theorem Z56_ok (a:TRef) (ha:a.FWraps.l.length<=1048576):Ok (Z56_q a):=by
 unfold Z56_q
 (repeat' (first|exact Tot.some _|assumption|(with_reducible refine Tot.bind ?_ fun _ _=>?_)|(with_reducible refine Tot.guard (fun _=>?_) fun _ _ _=>?_)|(with_reducible refine Tot.cond (fun _=>?_) fun _=>?_)|(with_reducible refine Tot.on fun _ _=>?_)|split))
 exact Z56_loop a ha _ _ (by simp)
theorem Z47_loop (k:Z10->Option Int) (l:List Z10) (s:Int) (hk:∀x∈l,∃r,k x=some r/\1<=r/\r<=x.sz) (hs:0<=s) (hb:s+((l.map Z10.sz).sum:Nat)<=1152921504606846976):∃r,Z47_q7 k l s=some r/\s<=r/\r<=s+((l.map Z10.sz).sum:Nat):=by
 induction l generalizing s with
 | nil=>exact⟨s,rfl,by simp,by simp⟩
 | cons x r ih =>
  obtain⟨v,h1,h2,h3⟩:=hk x List.mem_cons_self;simp only [List.map_cons,List.sum_cons] at hb ⊢;rw [Z47_q7];simp only [on,h1,Option.bind_some];rw [addC_ok (by omega)];simp only [Option.bind_some];obtain⟨w,h4,h5,h6⟩:=ih (s+v) (fun y hy=>hk y (List.mem_cons_of_mem _ hy)) (by omega) (by omega);exact⟨w,h4,by omega,by omega⟩
theorem Z10.item_lt {v x:Z10}(h:x∈v.FItems.l):x.sz<v.sz:=by
 have h1:=v.sz_def; have h2:=Sl.mem_le (f:=Z10.sz) h; omega
theorem Z10.items_sum (v:Z10):2+(v.FItems.l.map Z10.sz).sum<=v.sz:=by
 have h1:=v.sz_def; have h2:Sl.sz Z10.sz v.FItems=1+(v.FItems.l.map Z10.sz).sum:=rfl; omega
theorem Z47_tot (n:Nat):∀v:Z10,v.sz<n->v.sz<=1073741824->∃r,Z47_qn n v=some r/\1<=r/\r<=v.sz:=by
 induction n with
 | zero=>intro v h; omega
 | succ n ih =>
  intro v h hb;have h0:=v.items_sum;obtain⟨w,h4,h5,h6⟩:=Z47_loop (Z47_qn n) v.FItems.l 1 (fun x hx=>by have:=Z10.item_lt hx; exact ih x (by omega) (by omega)) (by omega) (by omega);rw [Z47_qn,h4];exact⟨w,rfl,by omega,by omega⟩
theorem Z47_ok (v:Z10) (h:v.sz<=1048576):∃r,Z47_q v=some r/\1<=r/\r<=v.sz:=Z47_tot F0 v (by rw [F0_eq]; omega) (by omega)
theorem Z44_loop (k:Z10->Option Int) (l:List Z10) (s b:Int) (hk:∀x∈l,∃r,k x=some r/\1<=r/\r<=b) (hs:0<=s/\s<=b):∃r,Z44_q8 k l s=some r/\0<=r/\r<=b:=by
 induction l generalizing s with
 | nil=>exact⟨s,rfl,by omega,by omega⟩
 | cons x r ih =>
  obtain⟨v,h1,h2,h3⟩:=hk x List.mem_cons_self;rw [Z44_q8];simp only [on,h1,Option.bind_some];exact ih _ (fun y hy=>hk y (List.mem_cons_of_mem _ hy)) (by split<;>omega)
theorem Z44_tot (n:Nat):∀v:Z10,v.sz<n->v.sz<=1073741824->∃r,Z44_qn n v=some r/\1<=r/\r<=v.sz:=by
 induction n with
 | zero=>intro v h; omega
 | succ n ih =>
  intro v h hb;have h0:=v.items_sum;obtain⟨w,h4,h5,h6⟩:=Z44_loop (Z44_qn n) v.FItems.l 0 (v.sz-1:Nat) (fun x hx=>by have:=Z10.item_lt hx; obtain⟨r,h7,h8,h9⟩:=ih x (by omega) (by omega); exact⟨r,h7,h8,by omega⟩) (by omega);rw [Z44_qn,h4];simp only [on,Option.bind_some];rw [addC_ok (by omega)];exact⟨w+1,rfl,by omega,by omega⟩
theorem Z44_ok (v:Z10) (h:v.sz<=1048576):Ok (Z44_q v):=by
 obtain⟨r,hr,_⟩:=Z44_tot F0 v (by rw [F0_eq]; omega) (by omega); exact⟨r,hr⟩
theorem Z50_in (a:Sl Bs) (x:Bs) (m i:Nat) (h:i+m<=a.l.length):Ok (Z50_q13 a x m i):=by
 induction m generalizing i with
 | zero=>exact Tot.some _
 | succ m ih =>
  rw [Z50_q13]
  (repeat' (first|exact Tot.some _|assumption|(with_reducible refine Tot.bind ?_ fun _ _=>?_)|(with_reducible refine Tot.guard (fun _=>?_) fun _ _ _=>?_)|(with_reducible refine Tot.cond (fun _=>?_) fun _=>?_)|(with_reducible refine Tot.on fun _ _=>?_)|split))
  ·exact get_ok (by omega)
  ·exact ih _ (by omega)
theorem Z50_out (a:Sl Bs) (l:List Bs) (i:Nat) (h:i+l.length=a.l.length):Ok (Z50_q5 a l i):=by
 induction l generalizing i with
 | nil=>exact Tot.some _
 | cons x r ih =>
  simp only [List.length_cons] at h;rw [Z50_q5]
  (repeat' (first|exact Tot.some _|assumption|(with_reducible refine Tot.bind ?_ fun _ _=>?_)|(with_reducible refine Tot.guard (fun _=>?_) fun _ _ _=>?_)|(with_reducible refine Tot.cond (fun _=>?_) fun _=>?_)|(with_reducible refine Tot.on fun _ _=>?_)|split))
  ·exact Z50_in a x _ _ (by omega)
  ·exact ih _ (by omega)
theorem Z50_ok (a:Sl Bs):Ok (Z50_q a):=by
 unfold Z50_q
 (repeat' (first|exact Tot.some _|assumption|(with_reducible refine Tot.bind ?_ fun _ _=>?_)|(with_reducible refine Tot.guard (fun _=>?_) fun _ _ _=>?_)|(with_reducible refine Tot.cond (fun _=>?_) fun _=>?_)|(with_reducible refine Tot.on fun _ _=>?_)|split))
 exact Z50_out a _ _ (by simp)
theorem Z49_ok (v:Z10) (b:Bool):Ok (Z49_q v b):=by
 unfold Z49_q
 (repeat' (first|exact Tot.some _|assumption|(with_reducible refine Tot.bind ?_ fun _ _=>?_)|(with_reducible refine Tot.guard (fun _=>?_) fun _ _ _=>?_)|(with_reducible refine Tot.cond (fun _=>?_) fun _=>?_)|(with_reducible refine Tot.on fun _ _=>?_)|split))
 exact Z50_ok _
theorem Z51_loop (b:Bool) (k:Z10->Bool->Option Bool) (l:List Z10) (hk:∀x∈l,Ok (k x b)):Ok (Z51_q11 b k l):=by
 induction l with
 | nil=>exact Tot.some _
 | cons x r ih =>
  rw [Z51_q11]
  (repeat' (first|exact Tot.some _|assumption|(with_reducible refine Tot.bind ?_ fun _ _=>?_)|(with_reducible refine Tot.guard (fun _=>?_) fun _ _ _=>?_)|(with_reducible refine Tot.cond (fun _=>?_) fun _=>?_)|(with_reducible refine Tot.on fun _ _=>?_)|split))
  ·rename_i h; rw [h]; exact hk x List.mem_cons_self
  ·exact ih fun y hy=>hk y (List.mem_cons_of_mem _ hy)
theorem Z51_tot (n:Nat):∀(v:Z10) (b:Bool),v.sz<n->Ok (Z51_qn n v b):=by
 induction n with
 | zero=>intro v b h; omega
 | succ n ih =>
  intro v b h;rw [Z51_qn]
  (repeat' (first|exact Tot.some _|assumption|(with_reducible refine Tot.bind ?_ fun _ _=>?_)|(with_reducible refine Tot.guard (fun _=>?_) fun _ _ _=>?_)|(with_reducible refine Tot.cond (fun _=>?_) fun _=>?_)|(with_reducible refine Tot.on fun _ _=>?_)|split))
  ·exact Z49_ok _ _
  ·exact Z51_loop b _ _ fun x hx=>ih x b (by have:=Z10.item_lt hx; omega)
theorem Z46_ok (v:Z10) (h:v.sz<=1048576):Ok (Z46_q v):=by
 unfold Z46_q;obtain⟨r,hr,_⟩:=Z47_ok v h
 (repeat' (first|exact Tot.some _|assumption|(with_reducible refine Tot.bind ?_ fun _ _=>?_)|(with_reducible refine Tot.guard (fun _=>?_) fun _ _ _=>?_)|(with_reducible refine Tot.cond (fun _=>?_) fun _=>?_)|(with_reducible refine Tot.on fun _ _=>?_)|split))
 ·exact⟨r,hr⟩
 ·exact Z44_ok v h
 ·exact Z51_tot F0 v true (by rw [F0_eq]; omega)
theorem Z61_loop (k:Z10->Option Bool) (l:List Z10) (hk:∀x∈l,Ok (k x)):Ok (Z61_q5 k l):=by
 induction l with
 | nil=>exact Tot.some _
 | cons x r ih =>
  rw [Z61_q5]
  (repeat' (first|exact Tot.some _|assumption|(with_reducible refine Tot.bind ?_ fun _ _=>?_)|(with_reducible refine Tot.guard (fun _=>?_) fun _ _ _=>?_)|(with_reducible refine Tot.cond (fun _=>?_) fun _=>?_)|(with_reducible refine Tot.on fun _ _=>?_)|split))
  ·rename_i h; rw [h]; exact hk x List.mem_cons_self
  ·exact ih fun y hy=>hk y (List.mem_cons_of_mem _ hy)
theorem Z61_tot (n:Nat):∀(v:Z10),v.sz<n->Ok (Z61_qn n v):=by
 induction n with
 | zero=>intro v h; omega
 | succ n ih =>
  intro v h;rw [Z61_qn]
  (repeat' (first|exact Tot.some _|assumption|(with_reducible refine Tot.bind ?_ fun _ _=>?_)|(with_reducible refine Tot.guard (fun _=>?_) fun _ _ _=>?_)|(with_reducible refine Tot.cond (fun _=>?_) fun _=>?_)|(with_reducible refine Tot.on fun _ _=>?_)|split))
  exact Z61_loop _ _ fun x hx=>ih x (by have:=Z10.item_lt hx; omega)
theorem Z61_ok (v:Z10) (h:v.sz<=1048576):Ok (Z61_q v):=Z61_tot F0 v (by rw [F0_eq]; omega)
theorem TArg.value_le (a:TArg):a.FValue.sz<=a.sz:=by have:=a.sz_def; omega
theorem TDir.arg_le {x:TDir}{a:TArg}(h:a∈x.FArgs.l):a.sz<=x.sz:=by have:=x.sz_def; have:=Sl.mem_le (f:=TArg.sz) h; omega
theorem Z63_in (h10:TDir) (l:List TArg) (h:∀a∈l,a.sz<=1048576):Ok (Z63_q25 h10 l):=by
 induction l with
 | nil=>exact Tot.some _
 | cons x r ih =>
  have h1:=h x List.mem_cons_self; have h2:=x.value_le;rw [Z63_q25]
  (repeat' (first|exact Tot.some _|assumption|(with_reducible refine Tot.bind ?_ fun _ _=>?_)|(with_reducible refine Tot.guard (fun _=>?_) fun _ _ _=>?_)|(with_reducible refine Tot.cond (fun _=>?_) fun _=>?_)|(with_reducible refine Tot.on fun _ _=>?_)|split))
  all_goals first|exact ih fun y hy=>h y (List.mem_cons_of_mem _ hy)|(subst_vars; first|exact Z46_ok _ (by omega)|exact Z61_ok _ (by omega))
theorem Z63_loop (l:List TDir) (h:∀a∈l,a.sz<=1048576):Ok (Z63_q10 l):=by
 induction l with
 | nil=>exact Tot.some _
 | cons x r ih =>
  have h1:=h x List.mem_cons_self;rw [Z63_q10]
  (repeat' (first|exact Tot.some _|assumption|(with_reducible refine Tot.bind ?_ fun _ _=>?_)|(with_reducible refine Tot.guard (fun _=>?_) fun _ _ _=>?_)|(with_reducible refine Tot.cond (fun _=>?_) fun _=>?_)|(with_reducible refine Tot.on fun _ _=>?_)|split))
  ·exact Z63_in x _ fun a ha=>by have:=TDir.arg_le ha; omega
  ·exact ih fun y hy=>h y (List.mem_cons_of_mem _ hy)
theorem Z63_ok (s:Sl TDir) (h:Sl.sz TDir.sz s<=1048576):Ok (Z63_q s):=by
 unfold Z63_q
 (repeat' (first|exact Tot.some _|assumption|(with_reducible refine Tot.bind ?_ fun _ _=>?_)|(with_reducible refine Tot.guard (fun _=>?_) fun _ _ _=>?_)|(with_reducible refine Tot.cond (fun _=>?_) fun _=>?_)|(with_reducible refine Tot.on fun _ _=>?_)|split))
 exact Z63_loop _ fun a ha=>by have:=Sl.mem_le (f:=TDir.sz) ha; omega
theorem TRef.wraps_le (r:TRef):r.FWraps.l.length<=r.sz:=by have:=r.sz_def; have:=Sl.len_le (f:=fun _:Int=>1) r.FWraps (fun _=>Nat.le_refl _); omega
theorem Z65_loop (l:List Z7) (h:∀a∈l,a.sz<=1048576):Ok (Z65_q10 l):=by
 induction l with
 | nil=>exact Tot.some _
 | cons x r ih =>
  have h1:=h x List.mem_cons_self; have h2:=x.sz_def; have h3:=x.FType.wraps_le;rw [Z65_q10]
  (repeat' (first|exact Tot.some _|assumption|(with_reducible refine Tot.bind ?_ fun _ _=>?_)|(with_reducible refine Tot.guard (fun _=>?_) fun _ _ _=>?_)|(with_reducible refine Tot.cond (fun _=>?_) fun _=>?_)|(with_reducible refine Tot.on fun _ _=>?_)|split))
  all_goals first|exact ih fun y hy=>h y (List.mem_cons_of_mem _ hy)|(subst_vars; first|exact Z56_ok _ (by omega)|exact Z63_ok _ (by omega)|exact Z46_ok _ (by omega)|exact Z61_ok _ (by omega))
theorem Z65_ok (s:Sl Z7) (h:Sl.sz Z7.sz s<=1048576):Ok (Z65_q s):=by
 unfold Z65_q
 (repeat' (first|exact Tot.some _|assumption|(with_reducible refine Tot.bind ?_ fun _ _=>?_)|(with_reducible refine Tot.guard (fun _=>?_) fun _ _ _=>?_)|(with_reducible refine Tot.cond (fun _=>?_) fun _=>?_)|(with_reducible refine Tot.on fun _ _=>?_)|split))
 exact Z65_loop _ fun a ha=>by have:=Sl.mem_le (f:=Z7.sz) ha; omega
theorem Z64_loop (l:List Z5) (h:∀a∈l,a.sz<=1048576):Ok (Z64_q10 l):=by
 induction l with
 | nil=>exact Tot.some _
 | cons x r ih =>
  have h1:=h x List.mem_cons_self; have h2:=x.sz_def; have h3:=x.FType.wraps_le;have hz:Z5.zero.FType.FWraps.l.length<=1048576:=by decide
  rw [Z64_q10];simp only [on];cases Z39_q x.FName<;>simp only [Bool.not_true,Bool.not_false,cond_true,cond_false,Bool.or_false,Bool.or_true,Bool.true_or,Bool.false_or]
  ·simp [guardO]; exact Tot.some _
  ·obtain⟨b1,e1⟩:=Z65_ok x.FArgs (by omega);obtain⟨b2,e2⟩:=Z56_ok x.FType (by omega);obtain⟨b3,e3⟩:=Z63_ok x.FDirs (by omega);have hr:=ih fun y hy=>h y (List.mem_cons_of_mem _ hy);cases b1<;>cases b2<;>cases b3<;>simp [guardO,e1,e2,e3]<;>first|exact Tot.some _|exact hr
theorem Z64_ok (s:Sl Z5) (h:Sl.sz Z5.sz s<=1048576):Ok (Z64_q s):=by
 unfold Z64_q
 (repeat' (first|exact Tot.some _|assumption|(with_reducible refine Tot.bind ?_ fun _ _=>?_)|(with_reducible refine Tot.guard (fun _=>?_) fun _ _ _=>?_)|(with_reducible refine Tot.cond (fun _=>?_) fun _=>?_)|(with_reducible refine Tot.on fun _ _=>?_)|split))
 exact Z64_loop _ fun a ha=>by have:=Sl.mem_le (f:=Z5.sz) ha; omega
theorem Z66_loop (b:Bool) (l:List Z8) (h:∀a∈l,a.sz<=1048576):Ok (Z66_q10 b l):=by
 induction l with
 | nil=>exact Tot.some _
 | cons x r ih =>
  have h1:=h x List.mem_cons_self; have h2:=x.sz_def;rw [Z66_q10];simp only [on];cases Z39_q x.FName<;>simp only [Bool.not_true,Bool.not_false,cond_true,cond_false,Bool.or_false,Bool.or_true,Bool.true_or,Bool.false_or]
  ·simp [guardO]; exact Tot.some _
  ·obtain⟨b3,e3⟩:=Z63_ok x.FDirs (by omega);have hr:=ih fun y hy=>h y (List.mem_cons_of_mem _ hy);simp only [guardO,e3,if_true,Option.bind_some]
   (repeat' (first|exact Tot.some _|assumption|(with_reducible refine Tot.bind ?_ fun _ _=>?_)|(with_reducible refine Tot.guard (fun _=>?_) fun _ _ _=>?_)|(with_reducible refine Tot.cond (fun _=>?_) fun _=>?_)|(with_reducible refine Tot.on fun _ _=>?_)|split))
theorem Z66_ok (s:Sl Z8) (b:Bool) (h:Sl.sz Z8.sz s<=1048576):Ok (Z66_q s b):=by
 unfold Z66_q
 (repeat' (first|exact Tot.some _|assumption|(with_reducible refine Tot.bind ?_ fun _ _=>?_)|(with_reducible refine Tot.guard (fun _=>?_) fun _ _ _=>?_)|(with_reducible refine Tot.cond (fun _=>?_) fun _=>?_)|(with_reducible refine Tot.on fun _ _=>?_)|split))
 exact Z66_loop _ _ fun a ha=>by have:=Sl.mem_le (f:=Z8.sz) ha; omega
theorem Z62_ok (x:TDef) (h:x.sz<=1048576):Ok (Z62_q x):=by
 have h2:=x.sz_def;unfold Z62_q
 (repeat' (first|exact Tot.some _|assumption|(with_reducible refine Tot.bind ?_ fun _ _=>?_)|(with_reducible refine Tot.guard (fun _=>?_) fun _ _ _=>?_)|(with_reducible refine Tot.cond (fun _=>?_) fun _=>?_)|(with_reducible refine Tot.on fun _ _=>?_)|split))
 all_goals first|exact Z63_ok _ (by omega)|exact Z64_ok _ (by omega)|exact Z66_ok _ _ (by omega)|exact Z65_ok _ (by omega)
theorem Z60_loop (l:List TDef) (h:∀a∈l,a.sz<=1048576):Ok (Z60_q10 l):=by
 induction l with
 | nil=>exact Tot.some _
 | cons x r ih =>
  rw [Z60_q10]
  (repeat' (first|exact Tot.some _|assumption|(with_reducible refine Tot.bind ?_ fun _ _=>?_)|(with_reducible refine Tot.guard (fun _=>?_) fun _ _ _=>?_)|(with_reducible refine Tot.cond (fun _=>?_) fun _=>?_)|(with_reducible refine Tot.on fun _ _=>?_)|split))
  ·subst_vars; exact Z62_ok _ (h _ List.mem_cons_self)
  ·exact ih fun y hy=>h y (List.mem_cons_of_mem _ hy)
theorem TDoc.def_le {d:TDoc}{x:TDef}(h:x∈d.FDefs.l):x.sz<=d.sz:=by have:=d.sz_def; have:=Sl.mem_le (f:=TDef.sz) h; omega
theorem Z60_ok (d:TDoc) (h:d.sz<=1048576):Ok (Z60_q d):=by
 unfold Z60_q
 (repeat' (first|exact Tot.some _|assumption|(with_reducible refine Tot.bind ?_ fun _ _=>?_)|(with_reducible refine Tot.guard (fun _=>?_) fun _ _ _=>?_)|(with_reducible refine Tot.cond (fun _=>?_) fun _=>?_)|(with_reducible refine Tot.on fun _ _=>?_)|split))
 exact Z60_loop _ fun a ha=>by have:=TDoc.def_le ha; omega
end Go.Proofs

namespace Go.Proofs
open Go Go.Ab
def nnW (w:List Int):Bool:=w.head?==some 1
def liW (w:List Int):Bool:=w.head?==some 2
def barS (s:Sl Int):Sl Int:=bif nnW s.l then⟨s.nl,s.l.drop 1⟩ else s
def bar (t:TRef):TRef:=⟨t.FName,barS t.FWraps⟩
def innerT (t:TRef):TRef:=⟨t.FName,⟨(barS t.FWraps).nl,(barS t.FWraps).l.drop 1⟩⟩
theorem clone_eq {s:Sl Int}(h:SOk s):Z130_q s=some s:=by
 unfold Z130_q;obtain⟨nl,l⟩:=s;cases nl with
 | true=>have:=h.1 rfl; simp only at this; subst this; rfl
 | false =>
  simp only [cond_false];rw [appC_ok (by omega) (by have:=h.2; simp at this ⊢; omega)];simp
theorem isNonNull_eq (t:TRef):Z144_q t=nnW t.FWraps.l:=by
 unfold Z144_q nnW on;cases t.FWraps.l with
 | nil=>rfl
 | cons a r=>simp; by_cases h:a=1<;>simp [h]
theorem head_one {w:List Int}(h:nnW w=true):1<=w.length:=by cases w<;>simp [nnW] at h ⊢
theorem sok_drop {α:Type}{s:Sl α}(n:Nat) (h:SOk s):SOk ⟨s.nl,s.l.drop n⟩:=⟨fun e=>by simp [h.1 e],by have:=h.2; simp; omega⟩
theorem barS_ok {s:Sl Int}(h:SOk s):SOk (barS s):=by
 unfold barS;cases nnW s.l with
 | true=>exact sok_drop 1 h
 | false=>exact h
theorem innerT_ok {t:TRef}(h:SOk t.FWraps):SOk (innerT t).FWraps:=sok_drop 1 (barS_ok h)
theorem nullable_eq {t:TRef}(h:SOk t.FWraps):Z145_q t=some (bar t):=by
 unfold Z145_q bar barS on;simp only [isNonNull_eq];cases hn:nnW t.FWraps.l with
 | true =>
  simp only [cond_true];rw [partC_tail (head_one hn)];simp only [Option.bind_some];rw [clone_eq (sok_drop 1 h)]; rfl
 | false =>
  simp only [cond_false,Option.bind_some];rw [clone_eq h]; rfl
theorem isList_eq {t:TRef}(h:SOk t.FWraps):Z143_q t=some (liW (barS t.FWraps).l):=by
 unfold Z143_q;rw [nullable_eq h];simp only [Option.bind_some,on,bar,liW];cases (barS t.FWraps).l with
 | nil=>rfl
 | cons a r=>simp; by_cases h:a=2<;>simp [h]
theorem list_one {w:List Int}(h:liW w=true):1<=w.length:=by cases w<;>simp [liW] at h ⊢
theorem inner_eq {t:TRef}(h:SOk t.FWraps):Z142_q t=some (bif liW (barS t.FWraps).l then(innerT t,true) else(⟨[],Sl.nil⟩,false)):=by
 unfold Z142_q;rw [isList_eq h];simp only [Option.bind_some];cases hl:liW (barS t.FWraps).l with
 | false=>rfl
 | true =>
  simp only [Bool.not_true,cond_false,cond_true];rw [nullable_eq h];simp only [Option.bind_some,bar];rw [partC_tail (list_one hl)];rfl
theorem inner_lt {t:TRef}(h:liW (barS t.FWraps).l=true):(innerT t).FWraps.l.length<t.FWraps.l.length:=by
 have h1:=list_one h;have h2:(barS t.FWraps).l.length<=t.FWraps.l.length:=by
  unfold barS; cases nnW t.FWraps.l<;>simp
 simp [innerT]; omega
theorem findAux (l:List TDef) (s:Bs):Z114_q7 s l=(match l.find? (fun t=>t.FName==s) with|some t=>Sum.inr (t,true)|none=>Sum.inl ()):=by
 induction l with
 | nil=>rfl
 | cons a r ih =>
  rw [Z114_q7,List.find?_cons];simp only [on,ih];cases a.FName==s<;>rfl
def fnd (l:List TDef) (s:Bs):TDef×Bool:=match l.find? (fun t=>t.FName==s) with|some t=>(t,true)|none=>(TDef.zero,false)
theorem find_eq (d:TDoc) (s:Bs):Z114_q d s=fnd d.FDefs.l s:=by
 unfold Z114_q fnd on;rw [findAux];cases d.FDefs.l.find? (fun t=>t.FName==s)<;>rfl
theorem fnd_mem (l:List TDef) (s:Bs):(fnd l s).1=TDef.zero\/(fnd l s).1∈l:=by
 unfold fnd;cases h:l.find? (fun t=>t.FName==s) with
 | none=>exact .inl rfl
 | some t=>exact .inr (List.mem_of_find?_eq_some h)
theorem fieldAux (l:List Z5) (s:Bs):Z113_q7 s l=(match l.find? (fun t=>t.FName==s) with|some t=>Sum.inr (t,true)|none=>Sum.inl ()):=by
 induction l with
 | nil=>rfl
 | cons a r ih =>
  rw [Z113_q7,List.find?_cons];simp only [on,ih];cases a.FName==s<;>rfl
def fndF (l:List Z5) (s:Bs):Z5×Bool:=match l.find? (fun t=>t.FName==s) with|some t=>(t,true)|none=>(Z5.zero,false)
theorem fieldOf_eq (t:TDef) (s:Bs):Z113_q t s=fndF t.FFields.l s:=by
 unfold Z113_q fndF on;rw [fieldAux];cases t.FFields.l.find? (fun t=>t.FName==s)<;>rfl
theorem inputAux (l:List Z7) (s:Bs):Z115_q7 s l=(match l.find? (fun t=>t.FName==s) with|some t=>Sum.inr (t,true)|none=>Sum.inl ()):=by
 induction l with
 | nil=>rfl
 | cons a r ih =>
  rw [Z115_q7,List.find?_cons];simp only [on,ih];cases a.FName==s<;>rfl
def fndI (l:List Z7) (s:Bs):Z7×Bool:=match l.find? (fun t=>t.FName==s) with|some t=>(t,true)|none=>(Z7.zero,false)
theorem inputOf_eq (t:Sl Z7) (s:Bs):Z115_q t s=fndI t.l s:=by
 unfold Z115_q fndI on;rw [inputAux];cases t.l.find? (fun t=>t.FName==s)<;>rfl
def DefsOk (d:TDoc):Prop:=∀x∈d.FDefs.l,x.FFields.l.length<=1048576/\x.FInputs.l.length<=1048576/\(∀f∈x.FFields.l,SOk f.FType.FWraps/\f.FArgs.l.length<=1048576/\∀i∈f.FArgs.l,SOk i.FType.FWraps)/\∀i∈x.FInputs.l,SOk i.FType.FWraps
theorem TRef.sok {r:TRef}(h:r.sz<=1048576) (hw:r.wf):SOk r.FWraps:=⟨hw.2.1.1,by have:=r.sz_def; have:=Sl.len_le (f:=fun _:Int=>1) r.FWraps (fun _=>Nat.le_refl _); omega⟩
theorem Z7.sok {r:Z7}(h:r.sz<=1048576) (hw:r.wf):SOk r.FType.FWraps:=TRef.sok (by have:=r.sz_def; omega) (Z7.FType_wf hw)
theorem defsOk {d:TDoc}(h:d.sz<=1048576) (hw:d.wf):DefsOk d:=by
 intro x hx;have h1:=x.sz_def; have h2:=d.sz_def; have h3:=Sl.mem_le (f:=TDef.sz) hx;have h4:=Sl.len_lt (f:=Z5.sz) x.FFields Z5.pos; have h5:=Sl.len_lt (f:=Z7.sz) x.FInputs Z7.pos;have w:x.wf:=(TDoc.FDefs_wf hw).2.2 x hx;refine⟨by omega,by omega,fun f hf=>?_,fun i hi=>?_⟩
 ·have h6:=Sl.mem_le (f:=Z5.sz) hf; have h7:=f.sz_def; have h8:=Sl.len_lt (f:=Z7.sz) f.FArgs Z7.pos;have wf:f.wf:=(TDef.FFields_wf w).2.2 f hf;exact⟨TRef.sok (by omega) (Z5.FType_wf wf),by omega,fun i hi=>Z7.sok (by have:=Sl.mem_le (f:=Z7.sz) hi; omega) ((Z5.FArgs_wf wf).2.2 i hi)⟩
 ·exact Z7.sok (by have:=Sl.mem_le (f:=Z7.sz) hi; omega) ((TDef.FInputs_wf w).2.2 i hi)
end Go.Proofs

namespace Go.Proofs
open Go Go.Ab
theorem reserved_is (a:Bs):Z40_q a=some (Z141_q a):=by
 unfold Z40_q Z141_q Z138_q Z34_q on
 match a with
 | []=>rfl
 | [x]=>rfl
 | x::y::r =>
  have e:decide ((2:Int)<=(((x::y::r).length:Nat):Int))=true:=by simp; omega
  have e2:decide (((([95,95]:Bs).length:Nat):Int)<=(((x::y::r).length:Nat):Int))=true:=by simp; omega
  have c:∀z:UInt8,decide (((z.toNat:Nat):Int)=95)=(z==95):=fun z=>by
   rw [show (z==95)=decide (z=95) from rfl]
   congr 1
   apply propext
   constructor
   ·intro h; apply UInt8.toNat_inj.1; simp at h ⊢; omega
   ·intro h; subst h; rfl
  have hl:(2:Int)<=(r.length:Nat)+1+1:=by omega
  have hx2:¬x=95->(x==95)=false:=fun h=>by simpa using h
  simp only [guardO,e,e2,if_true,Option.bind_some,List.getElem?_cons_zero,List.getElem?_cons_succ,c,Bool.true_and,cond_true,List.length_cons,List.length_nil,List.take_succ_cons,List.take_zero];by_cases hx:x=95
  ·subst hx;by_cases hy:y=95
   ·subst hy; simp [hl]
   ·simp [hl,hy]
  ·simp [hl,hx]
theorem filter_le {α:Type}{p q:α->Bool}{l:List α}(h:∀x∈l,p x=true->q x=true):(l.filter p).length<=(l.filter q).length:=by
 induction l with
 | nil=>simp
 | cons a r ih =>
  have:=ih fun x hx=>h x (List.mem_cons_of_mem _ hx);have h1:=h a List.mem_cons_self;simp only [List.filter_cons];cases hp:p a<;>cases hq:q a<;>simp_all<;>omega
theorem filter_lt {α:Type}{p q:α->Bool}{l:List α}{y:α}(h:∀x∈l,p x=true->q x=true) (hy:y∈l) (h1:p y=false) (h2:q y=true):(l.filter p).length<(l.filter q).length:=by
 induction l with
 | nil=>cases hy
 | cons a r ih =>
  have h3:=filter_le (l:=r) (p:=p) (q:=q) fun x hx=>h x (List.mem_cons_of_mem _ hx);simp only [List.filter_cons];rcases List.mem_cons.1 hy with rfl|hy
  ·simp [h1,h2]; omega
  ·have:=ih (fun x hx=>h x (List.mem_cons_of_mem _ hx)) hy;have h4:=h a List.mem_cons_self;cases hp:p a<;>cases hq:q a<;>simp_all<;>omega
theorem mem_insS {l:List Bs}{s t:Bs}(h:t∈l):t∈insS l s:=by unfold insS; split<;>simp [h]
theorem self_insS (l:List Bs) (s:Bs):s∈insS l s:=by
 unfold insS; split
 ·rename_i h; simpa using h
 ·simp
theorem condT {α:Type}{c:Bool}{a b:Option α}{z:α}(h:cond c a b=some z):(c=true/\a=some z)\/(c=false/\b=some z):=by cases c; exact .inr ⟨rfl,h⟩; exact .inl ⟨rfl,h⟩
theorem guardT {α β:Type}{c:Bool}{o:Option α}{d:α}{k:α->Option β}{z:β}(h:guardO c o d k=some z):(c=true/\∃v,o=some v/\k v=some z)\/(c=false/\k d=some z):=by
 unfold guardO at h;cases c with
 | true=>obtain⟨v,e,h⟩:=bindO_some (by simpa using h); exact .inl ⟨rfl,v,e,h⟩
 | false=>exact .inr ⟨rfl,by simpa using h⟩
end Go.Proofs

namespace Go.Proofs
open Go Go.Ab
theorem cls_eq (x:Int):((((decide ((97:Int)<=x)&&decide (x<=(122:Int)))||(decide ((65:Int)<=x)&&decide (x<=(90:Int))))||(decide ((48:Int)<=x)&&decide (x<=(57:Int))))||decide (x=(95:Int)))=(Z43_q x||Z41_q x):=by
 unfold Z43_q Z41_q;rw [Bool.eq_iff_iff];simp only [Bool.or_eq_true,Bool.and_eq_true,decide_eq_true_eq];constructor
 ·rintro (((h|h)|h)|h)
  ·exact .inl (.inl (.inr h))
  ·exact .inl (.inl (.inl h))
  ·exact .inr h
  ·exact .inl (.inr h)
 ·rintro (((h|h)|h)|h)
  ·exact .inl (.inl (.inr h))
  ·exact .inl (.inl (.inl h))
  ·exact .inr h
  ·exact .inl (.inr h)
theorem nameAux:∀(l:List UInt8) (i:Nat),0<i->Z39_q10 l i=Z140_q12 l
 | [],_,_=>rfl
 | h::r,i,hi=>by
  have h0:decide (((i:Nat):Int)=0)=false:=decide_eq_false (by omega);rw [Z39_q10,Z140_q12,nameAux r (i+1) (by omega)];simp only [Ab.on,h0,cls_eq];cases Z43_q ((h.toNat:Nat):Int)
  ·simp only [Bool.not_false,Bool.and_self,cond_true,Bool.true_and,Bool.false_or]
  ·rfl
theorem letter_digit (x:Int) (h:Z43_q x=true):((decide ((48:Int)<=x))&&(decide (x<=(57:Int))))=false:=by
 unfold Z43_q at h;rw [Bool.and_eq_false_iff];simp only [Bool.or_eq_true,Bool.and_eq_true,decide_eq_true_eq] at h;by_cases h2:x<=57
 ·left; apply decide_eq_false; omega
 ·right; exact decide_eq_false h2
theorem name_eq (s:Bs):Z140_q s=some (Z39_q s):=by
 unfold Z140_q Z39_q;cases s with
 | nil=>rfl
 | cons h r =>
  have e0:((h::r:Bs)==[])=false:=rfl;have e1:decide ((((h::r:Bs).length:Nat):Int)<1)=false:=decide_eq_false (by simp only [List.length_cons]; omega);rw [e0,e1];simp only [Bool.false_or];cases decide ((64:Int)<(((h::r:Bs).length:Nat):Int))
  ·simp only [Bool.not_false,guardO,if_true,cond_false,Bool.true_and,Bool.false_or];rw [show ((h::r:Bs)[0]?)=some h from rfl];simp only [Option.bind_some];rw [Z39_q10,Z140_q12,nameAux r 1 (by omega)];simp only [Ab.on,cls_eq];generalize ((h.toNat:Nat):Int)=x;cases hl:Z43_q x
   ·have hd:Z41_q x=(decide ((48:Int)<=x)&&decide (x<=(57:Int))):=rfl;rw [hd];cases h4:decide ((48:Int)<=x)<;>cases h5:decide (x<=(57:Int))<;>simp [h5]
   ·have h9:=letter_digit x hl;cases h4:decide ((48:Int)<=x)<;>cases h5:decide (x<=(57:Int))<;>rw [h4,h5] at h9<;>simp [h5] at h9 ⊢<;>(cases Z140_q12 r<;>rfl)
  ·rfl
end Go.Proofs

namespace Go.Proofs
open Go Go.Ab
def Tk {C D:Type}(fx:C->D) (ln:C->Nat) (o:Option C) (c:C) (k:Nat):Prop:=∃c',o=some c'/\fx c'=fx c/\ln c'<=ln c+k
section
variable {C D:Type}{fx:C->D}{ln:C->Nat}{o:Option C}{c:C}{k m n:Nat}
theorem Tk.pure (c:C) (k:Nat):Tk fx ln (some c) c k:=⟨c,rfl,rfl,Nat.le_add_right _ _⟩
theorem Tk.map (h:Tk fx ln o c k):Tk fx ln (o.bind fun x=>some x) c k:=by
 obtain⟨c1,e1,h1⟩:=h; exact⟨c1,by rw [e1]; rfl,h1⟩
theorem Tk.cond {b:Bool}{x y:Option C}(h1:b=true->Tk fx ln x c k) (h2:b=false->Tk fx ln y c k):Tk fx ln (bif b then x else y) c k:=by
 cases b
 ·exact h2 rfl
 ·exact h1 rfl
theorem Tk.guard {α:Type}{b:Bool}{p:Option α}{d:α}{f:α->Option C}(hp:b=true->∃x,p=some x) (hf:∀x,Tk fx ln (f x) c k):Tk fx ln (guardO b p d f) c k:=by
 cases b
 ·exact hf d
 ·obtain⟨x,e⟩:=hp rfl; rw [e]; exact hf x
end
def unseenL (l:List Bs) (seen:List Bs):Nat:=(l.filter fun f=>!seen.contains f).length
theorem unseenL_le {l a b:List Bs}(h:∀s∈a,s∈b):unseenL l b<=unseenL l a:=filter_le fun x _ hp=>by
 simp at hp ⊢; exact fun h2=>hp (h _ h2)
theorem unseenL_lt {l a b:List Bs}(h:∀s∈a,s∈b){f:Bs}(hf:f∈l) (h1:f∉a) (h2:f∈b):unseenL l b<unseenL l a :=
 filter_lt (fun x _ hp=>by simp at hp ⊢; exact fun h2=>hp (h _ h2)) hf (by simpa using h2) (by simpa using h1)
theorem findS (s:Bs):∀l:List TDef,Z114_q7 s l=Sum.inl ()\/∃t∈l,Z114_q7 s l=Sum.inr (t,true)/\t.FName=s
 | []=>.inl rfl
 | a::r=>by
  rw [Z114_q7];simp only [Ab.on];cases h:(a.FName==s)
  ·rw [cond_false];rcases findS s r with h|⟨t,ht,e⟩
   ·exact .inl h
   ·exact .inr ⟨t,.tail _ ht,e⟩
  ·exact .inr ⟨a,.head _,rfl,eq_of_beq h⟩
theorem findS_mem {d:TDoc}{s:Bs}(h:(Z114_q d s).2=true):(Z114_q d s).1∈d.FDefs.l:=by
 unfold Z114_q at h ⊢;simp only [Ab.on] at h ⊢;rcases findS s d.FDefs.l with e|⟨t,ht,e,-⟩
 ·rw [e] at h; cases h
 ·rw [e]; exact ht
theorem loops_told (a1:TDef) (c:Z3):∀(n:Nat) (a0:TDef) (s:List Bs),unseenL (c.Fd.FDefs.l.map TDef.FName) s<n->∃b s',Z125_qn n a0 a1 c s=some (b,s')/\∀x∈s,x∈s'
 | 0,_,_,h=>by omega
 | n+1,a0,s,hn=>by
  have loop:∀(l:List Z7) (s:List Bs),unseenL (c.Fd.FDefs.l.map TDef.FName) s<=n->∃r,Z125_q7 a1 c (Z125_qn n) l s=some r/\match r with|Sum.inl s'=>∀x∈s,x∈s'|Sum.inr e=>∀x∈s,x∈e.2:=by
   intro l;induction l with
   | nil=>intro s _; exact⟨_,rfl,fun _ h=>h⟩
   | cons h r ih =>
    intro s hs;rw [Z125_q7];simp only [Ab.on];have hg:∃x:Int,guardO (!(!decide (((h.FType.FWraps.l.length:Nat):Int)=(1:Int)))) (h.FType.FWraps.l[0]?) (0:Int) (fun x=>some x)=some x:=by
     by_cases h1:h.FType.FWraps.l.length=1
     ·rw [show decide (((h.FType.FWraps.l.length:Nat):Int)=(1:Int))=true from decide_eq_true (by omega)];simp only [guardO,Bool.not_true,Bool.not_false,if_true];rw [List.getElem?_eq_getElem (show 0<h.FType.FWraps.l.length by omega)];exact⟨_,rfl⟩
     ·rw [show decide (((h.FType.FWraps.l.length:Nat):Int)=(1:Int))=false from decide_eq_false (by omega)];exact⟨_,rfl⟩
    have hgo:∀{K:Int->Option (List Bs ⊕ (Bool×List Bs))},(∀x,∃q,K x=some q/\match q with|Sum.inl s'=>∀x∈s,x∈s'|Sum.inr e=>∀x∈s,x∈e.2)->∃q,guardO (!(!decide (((h.FType.FWraps.l.length:Nat):Int)=(1:Int)))) (h.FType.FWraps.l[0]?) (0:Int) K=some q/\match q with|Sum.inl s'=>∀x∈s,x∈s'|Sum.inr e=>∀x∈s,x∈e.2:=by
     intro K hK;obtain⟨x,hx⟩:=hg;generalize h.FType.FWraps.l[0]?=p at hx ⊢;generalize (!(!decide (((h.FType.FWraps.l.length:Nat):Int)=(1:Int))))=b at hx ⊢;cases b
     ·exact hK 0
     ·cases p with
      | none=>cases hx
      | some y=>exact hK y
    refine hgo fun x20=>?_;cases (!decide (((h.FType.FWraps.l.length:Nat):Int)=(1:Int))||!decide (x20=(1:Int)))
    ·rw [cond_false];cases (h.FType.FName==a1.FName)
     ·rw [cond_false];cases hc:((Z114_q c.Fd h.FType.FName).2&&decide ((Z114_q c.Fd h.FType.FName).1.FKind=(5:Int)))&&!(s.contains (Z114_q c.Fd h.FType.FName).1.FName)
      ·rw [cond_false]; exact ih s hs
      ·rw [cond_true];simp only [Bool.and_eq_true,Bool.not_eq_true'] at hc;obtain⟨⟨hf,-⟩,hns⟩:=hc;have hm:=findS_mem hf;generalize (Z114_q c.Fd h.FType.FName).1=t at hm hns ⊢;have hsub:∀x∈s,x∈insS s t.FName:=fun x hx=>mem_insS hx;have hlt:=unseenL_lt (l:=c.Fd.FDefs.l.map TDef.FName) hsub (List.mem_map_of_mem hm) (by simpa using hns) (self_insS s t.FName);obtain⟨b,s',e,hs'⟩:=loops_told a1 c n t (insS s t.FName) (by omega)
       rw [e,Option.bind_some];cases b
       ·rw [cond_false];have hle:=unseenL_le (l:=c.Fd.FDefs.l.map TDef.FName) (a:=s) (b:=s') fun x hx=>hs' x (hsub x hx);obtain⟨q,hq,hq2⟩:=ih s' (by omega);refine⟨q,hq, ?_⟩;cases q with
        | inl s2=>exact fun x hx=>hq2 x (hs' x (hsub x hx))
        | inr e2=>exact fun x hx=>hq2 x (hs' x (hsub x hx))
       ·exact⟨_,rfl,fun x hx=>hs' x (hsub x hx)⟩
     ·exact⟨_,rfl,fun _ h=>h⟩
    ·rw [cond_true]; exact ih s hs
  rw [Z125_qn];obtain⟨q,e,hq⟩:=loop a0.FInputs.l s (by omega);rw [e,Option.bind_some];cases q with
  | inl s'=>exact⟨false,s',rfl,hq⟩
  | inr e2=>exact⟨e2.1,e2.2,rfl,hq⟩
theorem loops_top (c:Z3) (a1:TDef) (h:c.Fd.FDefs.l.length<=1048576):∃b,Z124_q c a1=some b:=by
 have hu:unseenL (c.Fd.FDefs.l.map TDef.FName) []<=c.Fd.FDefs.l.length:=by
  have:=List.length_filter_le (fun f=>!([]:List Bs).contains f) (c.Fd.FDefs.l.map TDef.FName)
  simpa [unseenL] using this
 obtain⟨b,s',e,-⟩:=loops_told a1 c F0 a1 [] (by rw [F0_eq]; omega);unfold Z124_q Z125_q;rw [e];exact⟨b,rfl⟩
abbrev SK (o:Option Z3) (c:Z3) (k:Nat):Prop:=Tk Z3.Fd (fun c=>c.Ffaults.l.length) o c k
theorem SKg {o:Option Z3}{c:Z3}{k:Nat}(h:SK o c k):∃c',o=some c'/\c'.Fd=c.Fd/\c'.Ffaults.l.length<=c.Ffaults.l.length+k:=h
theorem sadd {c:Z3}(h:c.Ffaults.l.length<=1000000000) (b:Bool) (e:Int) (s:Bs):SK (Z120_q c b e s) c 1:=by
 unfold Z120_q;refine Tk.cond (fun _=>?_) fun _=>Tk.pure c 1;rw [appC_ok (by decide) (by simp; omega),Option.bind_some];exact⟨_,rfl,rfl,by simp⟩
theorem sname {c:Z3}(h:c.Ffaults.l.length<=900000000) (n a:Bs) (m:List Bs):∃c',Z127_q c n a m=some (c',insS m n)/\c'.Fd=c.Fd/\c'.Ffaults.l.length<=c.Ffaults.l.length+2:=by
 unfold Z127_q;rw [name_eq,Option.bind_some];simp only [Ab.on];obtain⟨c1,e1,f1,l1⟩:=SKg (sadd (c:=c) (by omega) ((!Z39_q n)||bif !(!Z39_q n) then Z141_q n else false) 6 a);rw [e1,Option.bind_some];obtain⟨c2,e2,f2,l2⟩:=SKg (sadd (c:=c1) (by omega) (m.contains n) 7 a);rw [e2];exact⟨c2,rfl,f2.trans f1,by omega⟩
theorem styp {c:Z3}(h:c.Ffaults.l.length<=900000000) (n a:Bs) (k:Int):SK (Z128_q c n a k) c 1:=by
 unfold Z128_q;simp only [Ab.on];exact Tk.cond (fun _=>(sadd (by omega) _ _ _).map) fun _=>Tk.cond (fun _=>(sadd (by omega) _ _ _).map) fun _=>(sadd (by omega) _ _ _).map
theorem sinputs (a2 a3:Bs) (h2:a2.length<=4000000) (h3:a3.length<=4000000):∀(l:List Z7) (c:Z3) (m:List Bs),(∀x∈l,x.sz<=1048576)->c.Ffaults.l.length+3*l.length<=900000000->SK (Z123_q5 a2 a3 l c m) c (3*l.length)
 | [],c,_,_,_=>Tk.pure c _
 | x::r,c,m,hx,hb=>by
  have hs:=x.sz_def;have hz:=hx x (.head _);have hn:Bs.sz x.FName=x.FName.length+1:=rfl;simp only [List.length_cons] at hb ⊢;rw [Z123_q5];simp only [Ab.on];rw [catC_ok (by omega),Option.bind_some,catC_ok (by simp; omega),Option.bind_some];obtain⟨c1,e1,f1,l1⟩:=sname (c:=c) (by omega) x.FName ((a2++x.FName)++a3) m;rw [e1,Option.bind_some];obtain⟨c2,e2,f2,l2⟩:=SKg (styp (c:=c1) (by omega) x.FType.FName ((a2++x.FName)++a3) 1)
  rw [e2,Option.bind_some];obtain⟨c3,e3,f3,l3⟩:=SKg (sinputs a2 a3 h2 h3 r c2 (insS m x.FName) (fun y hy=>hx y (.tail _ hy)) (by omega));exact⟨c3,e3,f3.trans (f2.trans f1),by show c3.Ffaults.l.length<=c.Ffaults.l.length+_; omega⟩
end Go.Proofs

namespace Go.Proofs
open Go Go.Ab
theorem sinputs_top (c:Z3) (l:Sl Z7) (a2 a3:Bs) (h2:a2.length<=4000000) (h3:a3.length<=4000000) (hx:∀x∈l.l,x.sz<=1048576) (hb:c.Ffaults.l.length+3*l.l.length<=900000000):SK (Z123_q c l a2 a3) c (3*l.l.length):=by
 unfold Z123_q;exact(sinputs a2 a3 h2 h3 l.l c [] hx hb).map
theorem sfields (a1:TDef) (h1:a1.FName.length<=1048576):∀(l:List Z5) (c:Z3) (m:List Bs),(∀x∈l,x.sz<=1048576)->c.Ffaults.l.length+3*(l.map Z5.sz).sum<=900000000->SK (Z122_q6 a1 l c m) c (3*(l.map Z5.sz).sum)
 | [],c,_,_,_=>Tk.pure c _
 | x::r,c,m,hx,hb=>by
  have hs:=x.sz_def;have hz:=hx x (.head _);have hn:Bs.sz x.FName=x.FName.length+1:=rfl;have hl:=Sl.len_lt (f:=Z7.sz) x.FArgs Z7.pos;simp only [List.map_cons,List.sum_cons] at hb ⊢;rw [Z122_q6];simp only [Ab.on];rw [catC_ok (by simp; omega),Option.bind_some,catC_ok (by simp; omega),Option.bind_some];generalize hat:a1.FName++([46]:Bs)++x.FName=at_;have hal:at_.length<=2097154:=by rw [<- hat]; simp; omega
  obtain⟨c1,e1,f1,l1⟩:=sname (c:=c) (by omega) x.FName at_ m;rw [e1,Option.bind_some];obtain⟨c2,e2,f2,l2⟩:=SKg (styp (c:=c1) (by omega) x.FType.FName at_ 0);rw [e2,Option.bind_some,catC_ok (by simp; omega),Option.bind_some];obtain⟨c3,e3,f3,l3⟩:=SKg (sinputs_top c2 x.FArgs (at_++([40]:Bs)) ([41]:Bs) (by simp; omega) (by simp) (fun y hy=>by have:=Sl.mem_le (f:=Z7.sz) hy; omega) (by omega));rw [e3,Option.bind_some]
  obtain⟨c4,e4,f4,l4⟩:=SKg (sfields a1 h1 r c3 (insS m x.FName) (fun y hy=>hx y (.tail _ hy)) (by omega));exact⟨c4,e4,f4.trans (f3.trans (f2.trans f1)),by show c4.Ffaults.l.length<=c.Ffaults.l.length+_; omega⟩
theorem smembers (a1:TDef) (h1:a1.FName.length<=1048576):∀(l:List Z8) (c:Z3) (m:List Bs),(∀x∈l,x.sz<=1048576)->c.Ffaults.l.length+2*l.length<=900000000->SK (Z126_q6 a1 l c m) c (2*l.length)
 | [],c,_,_,_=>Tk.pure c _
 | x::r,c,m,hx,hb=>by
  have hs:=x.sz_def;have hz:=hx x (.head _);have hn:Bs.sz x.FName=x.FName.length+1:=rfl;simp only [List.length_cons] at hb ⊢;rw [Z126_q6];simp only [Ab.on];rw [catC_ok (by simp; omega),Option.bind_some,catC_ok (by simp; omega),Option.bind_some];refine Tk.guard (fun _=>⟨_,name_eq _⟩) fun x21=>?_;obtain⟨c1,e1,f1,l1⟩:=SKg (sadd (c:=c) (by omega) ((((((x.FName==([116,114,117,101]:Bs)))||((x.FName==([102,97,108,115,101]:Bs))))||((x.FName==([110,117,108,108]:Bs))))||(!x21))||bif !(((((x.FName==([116,114,117,101]:Bs)))||((x.FName==([102,97,108,115,101]:Bs))))||((x.FName==([110,117,108,108]:Bs))))||(!x21)) then Z141_q x.FName else false) 6 (a1.FName++([46]:Bs)++x.FName))
  rw [e1,Option.bind_some];obtain⟨c2,e2,f2,l2⟩:=SKg (sadd (c:=c1) (by omega) (m.contains x.FName) 7 (a1.FName++([46]:Bs)++x.FName));rw [e2,Option.bind_some];obtain⟨c3,e3,f3,l3⟩:=SKg (smembers a1 h1 r c2 (insS m x.FName) (fun y hy=>hx y (.tail _ hy)) (by omega));exact⟨c3,e3,f3.trans (f2.trans f1),by show c3.Ffaults.l.length<=c.Ffaults.l.length+_; omega⟩
end Go.Proofs

namespace Go.Proofs
open Go Go.Ab
def TkP (o:Option (Z3×List Bs)) (c:Z3) (k:Nat):Prop:=∃c' m',o=some (c',m')/\c'.Fd=c.Fd/\c'.Ffaults.l.length<=c.Ffaults.l.length+k
theorem TkP.bind {o:Option Z3}{f:Z3->Option (Z3×List Bs)}{c:Z3}{k m n:Nat}(h:SK o c k) (hn:k+m<=n) (hf:∀c',c'.Fd=c.Fd->c'.Ffaults.l.length<=c.Ffaults.l.length+k->TkP (f c') c' m):TkP (o.bind f) c n:=by
 obtain⟨c1,e1,f1,l1⟩:=SKg h;obtain⟨c2,m2,e2,f2,l2⟩:=hf c1 f1 l1;exact⟨c2,m2,by rw [e1]; exact e2,f2.trans f1,by omega⟩
theorem TkP.guard {α:Type}{b:Bool}{p:Option α}{d:α}{f:α->Option (Z3×List Bs)}{c:Z3}{k:Nat}(hp:b=true->∃x,p=some x) (hf:∀x,TkP (f x) c k):TkP (guardO b p d f) c k:=by
 cases b
 ·exact hf d
 ·obtain⟨x,e⟩:=hp rfl; rw [e]; exact hf x
theorem TkP.cond {b:Bool}{x y:Option (Z3×List Bs)}{c:Z3}{k:Nat}(h1:TkP x c k) (h2:TkP y c k):TkP (bif b then x else y) c k:=by
 cases b
 ·exact h2
 ·exact h1
theorem TkP.pair {o:Option Z3}{c:Z3}{k n:Nat}(h:SK o c k) (hn:k<=n) (M:List Bs):TkP (o.bind fun x=>some (x,M)) c n:=by
 obtain⟨c1,e1,f1,l1⟩:=SKg h;exact⟨c1,M,by rw [e1]; rfl,f1,by omega⟩
theorem drop_nextS {α:Type}{l r:List α}{i:Nat}{x:α}(h:l.drop i=x::r):l.drop (i+1)=r/\l[i]?=some x:=by
 refine⟨?_,by have:=congrArg (fun t=>t[0]?) h; simpa using this⟩;have:=congrArg (List.drop 1) h
 simpa [List.drop_drop] using this
theorem sdef {d:TDoc}{t:TDef}{i:Nat}(ht:d.FDefs.l[i]?=some t) (hz:t.sz<=1048576) (hdl:d.FDefs.l.length<=1048576) (c:Z3) (hd:c.Fd=d) (m:List Bs) (hb:c.Ffaults.l.length+(5+3*t.sz)<=900000000):TkP (Z121_q c (i:Int) m) c (5+3*t.sz):=by
 have hs:=t.sz_def;have hn:Bs.sz t.FName=t.FName.length+1:=rfl;have hf:(t.FFields.l.map Z5.sz).sum+1=Sl.sz Z5.sz t.FFields:=by unfold Sl.sz; omega
 have hm:=Sl.len_lt (f:=Z8.sz) t.FMembers Z8.pos;have hi:=Sl.len_lt (f:=Z7.sz) t.FInputs Z7.pos;unfold Z121_q;have hidx:idxC c.Fd.FDefs.l (i:Int)=some t:=by rw [hd]; unfold idxC; rw [if_pos (by simp),Int.toNat_natCast,ht]
 rw [hidx,Option.bind_some,name_eq,Option.bind_some];simp only [Ab.on];refine TkP.bind (k:=1) (m:=4+3*t.sz) (sadd (by omega) _ _ _) (by omega) fun c1 f1 l1=>?_;refine TkP.bind (k:=1) (m:=3+3*t.sz) (sadd (by omega) _ _ _) (by omega) fun c2 f2 l2=>?_;refine TkP.bind (k:=1) (m:=2+3*t.sz) (sadd (by omega) _ _ _) (by omega) fun c3 f3 l3=>?_;refine TkP.bind (k:=1) (m:=1+3*t.sz) (sadd (by omega) _ _ _) (by omega) fun c4 f4 l4=>?_
 refine TkP.guard (fun _=>loops_top c4 t (by rw [f4,f3,f2,f1,hd]; exact hdl)) fun x20=>?_;refine TkP.bind (k:=1) (m:=3*t.sz) (sadd (by omega) _ _ _) (by omega) fun c5 f5 l5=>?_;refine TkP.cond ?_ (TkP.cond ?_ (TkP.cond ?_ ⟨c5,_,rfl,rfl,by omega⟩))
 ·refine TkP.pair (k:=3*(t.FFields.l.map Z5.sz).sum) ?_ (by omega) _;unfold Z122_q;exact(sfields t (by omega) t.FFields.l c5 [] (fun y hy=>by have:=Sl.mem_le (f:=Z5.sz) hy; omega) (by omega)).map
 ·refine TkP.pair (k:=2*t.FMembers.l.length) ?_ (by omega) _;unfold Z126_q;exact(smembers t (by omega) t.FMembers.l c5 [] (fun y hy=>by have:=Sl.mem_le (f:=Z8.sz) hy; omega) (by omega)).map
 ·rw [catC_ok (by simp; omega),Option.bind_some];exact TkP.pair (sinputs_top c5 t.FInputs _ _ (by simp; omega) (by simp) (fun y hy=>by have:=Sl.mem_le (f:=Z7.sz) hy; omega) (by omega)) (by omega) _
theorem scheck_loop {d:TDoc}(hz:∀t∈d.FDefs.l,t.sz<=1048576) (hdl:d.FDefs.l.length<=1048576):∀(l:List TDef) (i:Nat) (c:Z3) (m:List Bs),d.FDefs.l.drop i=l->c.Fd=d->c.Ffaults.l.length+(5*l.length+3*(l.map TDef.sz).sum)<=900000000->SK (Z112_q20 l i c m) c (5*l.length+3*(l.map TDef.sz).sum)
 | [],i,c,m,_,_,_=>Tk.pure c _
 | t::r,i,c,m,hl,hd,hb=>by
  obtain⟨t1,t2⟩:=drop_nextS hl;simp only [List.length_cons,List.map_cons,List.sum_cons] at hb ⊢;rw [Z112_q20];obtain⟨c1,m1,e1,f1,l1⟩:=sdef t2 (hz t (List.mem_of_getElem? t2)) hdl c hd m (by omega);rw [e1,Option.bind_some];obtain⟨c2,e2,f2,l2⟩:=SKg (scheck_loop hz hdl r (i+1) c1 m1 t1 (f1.trans hd) (by omega));exact⟨c2,e2,f2.trans f1,by show c2.Ffaults.l.length<=c.Ffaults.l.length+_; omega⟩
end Go.Proofs

namespace Go.Proofs
open Go Go.Ab
def dirB (t:TRef):Bool:=decide (((t.FWraps.l.length:Nat):Int)=1)&&decide (t.FWraps.l.headD 0=1)
def gd (d:TDoc) (own:Bs) (x:Z7):Bool:=dirB x.FType&&(x.FType.FName==own||((fnd d.FDefs.l x.FType.FName).2&&decide ((fnd d.FDefs.l x.FType.FName).1.FKind=5)))
def inp (d:TDoc) (n:Bs):List Z7:=(fnd d.FDefs.l n).1.FInputs.l
inductive Rch (d:TDoc) (own:Bs) (t:List Z7):Bs->Prop where
 | here {x:Z7}(hx:x∈t) (hg:gd d own x=true):Rch d own t x.FType.FName
 | step {n:Bs}{x:Z7}(h:Rch d own t n) (hx:x∈inp d n) (hg:gd d own x=true):Rch d own t x.FType.FName
theorem Rch.via {d:TDoc}{own:Bs}{t:List Z7}{n:Bs}{e:Z7}(he:e∈t) (hg:gd d own e=true) (h:Rch d own (inp d e.FType.FName) n):Rch d own t n:=by
 induction h with
 | here hx hg2=>exact .step (.here he hg) hx hg2
 | step _ hx hg2 ih=>exact .step ih hx hg2
theorem Rch.cons {d:TDoc}{own:Bs}{x:Z7}{t:List Z7}{n:Bs}(h:Rch d own t n):Rch d own (x::t) n:=by
 induction h with
 | here hx hg=>exact .here (.tail _ hx) hg
 | step _ hx hg ih=>exact .step ih hx hg
structure DfsV (d:TDoc) (own:Bs) (t:List Z7) (S S':List Bs):Prop where
 sub:∀n∈S,n∈S'
 edges:∀e∈t,gd d own e=true->e.FType.FName≠own/\e.FType.FName∈S'
 closed:∀n∈S',n∉S->∀e∈inp d n,gd d own e=true->e.FType.FName≠own/\e.FType.FName∈S'
theorem DfsV.nil {d:TDoc}{own:Bs}(S:List Bs):DfsV d own [] S S:=⟨fun _ h=>h,fun _ h=>(by cases h),fun _ h h2=>absurd h h2⟩
theorem DfsV.skip {d:TDoc}{own:Bs}{x:Z7}{S:List Bs}(h:gd d own x=true->x.FType.FName≠own/\x.FType.FName∈S):DfsV d own [x] S S :=
 ⟨fun _ h=>h,fun e he hg=>by rw [List.mem_singleton.1 he] at hg ⊢; exact h hg,fun _ h h2=>absurd h h2⟩
theorem DfsV.comp {d:TDoc}{own:Bs}{x:Z7}{r:List Z7}{S S1 S2:List Bs}(h1:DfsV d own [x] S S1) (h2:DfsV d own r S1 S2):DfsV d own (x::r) S S2:=by
 refine⟨fun n hn=>h2.sub n (h1.sub n hn),fun e he hg=>?_,fun n hn hnS e he hg=>?_⟩
 ·rcases List.mem_cons.1 he with rfl|he
  ·obtain⟨a,b⟩:=h1.edges e (.head _) hg; exact⟨a,h2.sub _ b⟩
  ·exact h2.edges e he hg
 ·by_cases h3:n∈S1
  ·obtain⟨a,b⟩:=h1.closed n h3 hnS e he hg; exact⟨a,h2.sub _ b⟩
  ·exact h2.closed n hn h3 e he hg
theorem insS_iff (l:List Bs) (s n:Bs):n∈insS l s↔n∈l\/n=s:=by
 unfold insS
 split
 ·rename_i h
  exact⟨fun h1=>.inl h1,fun h1=>by rcases h1 with h1|rfl; exact h1; simpa using h⟩
 ·simp [or_comm]
theorem DfsV.child {d:TDoc}{own:Bs}{x:Z7}{S S1:List Bs}(hne:x.FType.FName≠own) (h:DfsV d own (inp d x.FType.FName) (insS S x.FType.FName) S1):DfsV d own [x] S S1:=by
 refine⟨fun n hn=>h.sub n ((insS_iff _ _ _).2 (.inl hn)),fun e he hg=>?_,fun n hn hnS e he hg=>?_⟩
 ·rw [List.mem_singleton.1 he]; exact⟨hne,h.sub _ ((insS_iff _ _ _).2 (.inr rfl))⟩
 ·by_cases h3:n=x.FType.FName
  ·subst h3; exact h.edges e he hg
  ·exact h.closed n hn (fun h4=>by rcases (insS_iff _ _ _).1 h4 with h4|h4; exact hnS h4; exact h3 h4) e he hg
theorem DfsV.end {d:TDoc}{own:Bs}{t:List Z7}{S:List Bs}(h:DfsV d own t [] S):¬Rch d own t own:=by
 have key:∀n,Rch d own t n->n≠own/\n∈S:=by
  intro n hn;induction hn with
  | here hx hg=>exact h.edges _ hx hg
  | step _ hx hg ih=>exact h.closed _ ih.2 (by simp) _ hx hg
 exact fun hr=>(key _ hr).1 rfl
theorem fnd_name {l:List TDef}{s:Bs}(h:(fnd l s).2=true):(fnd l s).1.FName=s:=by
 unfold fnd at h ⊢;cases e:l.find? (fun t=>t.FName==s) with
 | none=>rw [e] at h; cases h
 | some t=>have:=List.find?_some e; simpa using this
def LpP (d:TDoc) (own:Bs) (k:TDef->TDef->Z3->List Bs->Option (Bool×List Bs)) (a1:TDef) (c:Z3):Prop :=
 ∀y s z,k y a1 c s=some z->(z.1=true->Rch d own y.FInputs.l own)/\(z.1=false->DfsV d own y.FInputs.l s z.2)
theorem loops_l {d:TDoc}{a1:TDef}{c:Z3}(hd:c.Fd=d) {k} (hk:LpP d a1.FName k a1 c):∀(l:List Z7) (s:List Bs) (o),Z125_q7 a1 c k l s=some o ->
  (∃s',o=.inl s'/\DfsV d a1.FName l s s')\/∃s',o=.inr (true,s')/\Rch d a1.FName l a1.FName
 | [],s,o,h=>by rw [Z125_q7] at h; cases h; exact .inl ⟨s,rfl,.nil s⟩
 | x::r,s,o,h=>by
  rw [Z125_q7] at h;simp only [Ab.on,hd,find_eq] at h;have skip:(gd d a1.FName x=true->x.FType.FName≠a1.FName/\x.FType.FName∈s)->Z125_q7 a1 c k r s=some o->(∃s',o=.inl s'/\DfsV d a1.FName (x::r) s s')\/∃s',o=.inr (true,s')/\Rch d a1.FName (x::r) a1.FName:=fun hg h=>by
   rcases loops_l hd hk r s o h with ⟨s',e,h2⟩|⟨s',e,h2⟩
   ·exact .inl ⟨s',e,DfsV.comp (.skip hg) h2⟩
   ·exact .inr ⟨s',e,h2.cons⟩
  have rest:∀w:Int,(dirB x.FType=(decide (((x.FType.FWraps.l.length:Nat):Int)=1)&&decide (w=1))) ->
    (bif (!decide (((x.FType.FWraps.l.length:Nat):Int)=(1:Int)))||(!decide (w=(1:Int))) then Z125_q7 a1 c k r s else(bif ((x.FType.FName==a1.FName)) then(some (Sum.inr (true,s))) else(bif (((fnd d.FDefs.l x.FType.FName).2&&(decide ((fnd d.FDefs.l x.FType.FName).1.FKind=(5:Int))))&&(!(s.contains (fnd d.FDefs.l x.FType.FName).1.FName))) then((k (fnd d.FDefs.l x.FType.FName).1 a1 c (insS s (fnd d.FDefs.l x.FType.FName).1.FName)).bind fun x32=>bif x32.1 then(some (Sum.inr (true,x32.2))) else(Z125_q7 a1 c k r x32.2)) else(Z125_q7 a1 c k r s))))=some o ->
    (∃s',o=.inl s'/\DfsV d a1.FName (x::r) s s')\/∃s',o=.inr (true,s')/\Rch d a1.FName (x::r) a1.FName:=by
   intro w hw h;rcases condT h with ⟨h1,h⟩|⟨h1,h⟩
   ·refine skip (fun hg=>?_) h;unfold gd at hg;rw [hw] at hg;simp only [Bool.and_eq_true] at hg;rw [hg.1.1,hg.1.2] at h1; cases h1
   ·have hdir:dirB x.FType=true:=by
     rw [hw]; simp only [Bool.or_eq_false_iff,Bool.not_eq_false'] at h1; rw [h1.1,h1.2]; rfl
    rcases condT h with ⟨h2,h⟩|⟨h2,h⟩
    ·cases h;refine .inr ⟨s,rfl, ?_⟩;have he:x.FType.FName=a1.FName:=by simpa using h2
     have:=Rch.here (d:=d) (own:=a1.FName) (t:=x::r) (x:=x) (.head _) (by unfold gd; rw [hdir,h2]; rfl);rw [he] at this; exact this
    ·have hne:x.FType.FName≠a1.FName:=by simpa using h2
     rcases condT h with ⟨h3,h⟩|⟨h3,h⟩
     ·simp only [Bool.and_eq_true] at h3;have hn:=fnd_name h3.1.1;have hg:gd d a1.FName x=true:=by unfold gd; rw [hdir,h3.1.1,h3.1.2]; simp
      obtain⟨z,ez,h⟩:=bindO_some h;obtain⟨p1,p2⟩:=hk _ _ _ ez;rcases condT h with ⟨h4,h⟩|⟨h4,h⟩
      ·cases h; exact .inr ⟨_,rfl,Rch.via (.head _) hg (p1 h4)⟩
      ·have hc:DfsV d a1.FName [x] s z.2:=.child hne (by have:=p2 h4; rw [hn] at this; exact this);rcases loops_l hd hk r z.2 o h with ⟨s',e,h5⟩|⟨s',e,h5⟩
       ·exact .inl ⟨s',e,DfsV.comp hc h5⟩
       ·exact .inr ⟨s',e,h5.cons⟩
     ·refine skip (fun hg=>⟨hne, ?_⟩) h;unfold gd at hg;simp only [Bool.and_eq_true,Bool.or_eq_true] at hg;rcases hg.2 with h5|h5
      ·exact absurd (by simpa using h5) hne
      ·have hn:=fnd_name h5.1;rw [h5.1,h5.2,hn] at h3
       simpa using h3
  rcases guardT h with ⟨h1,w,ew,h⟩|⟨h1,h⟩
  ·refine rest w ?_ h;unfold dirB;cases hl:x.FType.FWraps.l with
   | nil=>rw [hl] at ew; cases ew
   | cons a b=>rw [hl] at ew; cases ew; rfl
  ·refine rest 0 ?_ h;unfold dirB;rw [show decide (((x.FType.FWraps.l.length:Nat):Int)=1)=false from by simpa using h1]; rfl
theorem loops_n {d:TDoc}{a1:TDef}{c:Z3}(hd:c.Fd=d):∀n:Nat,LpP d a1.FName (Z125_qn n) a1 c
 | 0=>fun _ _ _ h=>by cases h
 | n+1=>fun y s z h=>by
  rw [Z125_qn] at h;obtain⟨o,eo,h⟩:=bindO_some h;rcases loops_l hd (loops_n hd n) _ _ _ eo with ⟨s',rfl,h2⟩|⟨s',rfl,h2⟩
  ·cases h; exact⟨fun h=>(by cases h),fun _=>h2⟩
  ·cases h; exact⟨fun _=>h2,fun h=>(by cases h)⟩
open Classical in
noncomputable def circ (d:TDoc) (t:TDef):Bool:=decide (Rch d t.FName t.FInputs.l t.FName)
open Classical in
theorem loops_is {d:TDoc}{a1:TDef}{c:Z3}(hd:c.Fd=d) (hl:d.FDefs.l.length<=1048576):Z124_q c a1=some (circ d a1):=by
 obtain⟨b,e⟩:=loops_top c a1 (by rw [hd]; exact hl);rw [e]
 congr 1
 unfold Z124_q Z125_q at e;obtain⟨z,ez,e⟩:=bindO_some e;cases e;obtain⟨h1,h2⟩:=loops_n hd _ _ _ _ ez;unfold circ;cases hz:z.1
 ·exact(decide_eq_false (h2 hz).end).symm
 ·exact(decide_eq_true (h1 hz)).symm
end Go.Proofs
