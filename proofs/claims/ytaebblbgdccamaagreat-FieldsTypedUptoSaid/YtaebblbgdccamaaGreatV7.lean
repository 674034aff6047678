import Derived.Test.YtaebblbgdccamaaGreatV6
import Derived.Test.YtaebblbgdccamaaGreatRows
set_option maxRecDepth 100000
set_option maxHeartbeats 2000000
set_option linter.unusedVariables false
set_option linter.unusedSimpArgs false
namespace Go.Proofs
open Go Go.Ab
def Z36_q (a0:Z7) (a1:Z10):Bool:=on (Z123_q a0.FType) fun x3=>on (bif (x3&&(!a0.FHas)) then Z110_q a1.FKeys a0.FName else false) fun x4=>((x3&&(!a0.FHas))&&(!x4))
theorem Z36_eq (a0:Z7) (a1:Z10):Z36 a0 a1=some (Z36_q a0 a1):=by
 unfold Z36 Z36_q;refine Q.bindP (Z123_eq _) fun x3 hx_x3=>?_;refine Q.guardP (Z110_eq _ _) fun x4 hx_x4=>?_;all_goals rfl
def Z35_q7 (a0:TDoc) (a1:TDef) (a2:Z10) (k_rec_111:TDoc->TRef->Z10->Option Bool):List Bs->Nat->Option (Unit ⊕ Bool)
 | [],s14_8=>some (Sum.inl ())
 | h7::r7,s14_8=>on (h7) fun x14=>on (Z89_q a1.FInputs x14) fun x16=>guardO (!((!x16.2)||(decide (((a2.FItems.l.length:Nat):Int)<=((s14_8:Nat):Int))))) (a2.FItems.l[s14_8]?) Z10.zero fun x18=>guardO (!((!x16.2)||(decide (((a2.FItems.l.length:Nat):Int)<=((s14_8:Nat):Int))))) (k_rec_111 a0 x16.1.FType x18) false fun x19=>bif (((!x16.2)||(decide (((a2.FItems.l.length:Nat):Int)<=((s14_8:Nat):Int))))||(!x19)) then(some (Sum.inr false)) else(Z35_q7 a0 a1 a2 k_rec_111 (r7) (s14_8+1) )
theorem Z35_l7_qe {a0:TDoc}{a1:TDef}{a2:Z10}{k_rec_111:TDoc->TRef->Z10->Option Bool}  (Kb7:(Unit ⊕ Bool)->Option Bool) (hend:∀(n7:Nat) (s14_8:Nat),Z35_j2 a1 a2  =Kb7 (Sum.inl ())) (hret:∀e:Bool,some e=Kb7 (Sum.inr e)):∀(n7:Nat) (s14_8:Nat),(0<n7/\a2.FKeys.l.length<s14_8+n7)->Z35_l7 a0 a1 a2 k_rec_111 n7 s14_8=Option.bind (Z35_q7 a0 a1 a2 k_rec_111 (a2.FKeys.l.drop s14_8) s14_8 ) Kb7:=by
 intro n7;induction n7 with
 | zero=>intro s14_8 hn; exact absurd hn.1 (by omega)
 | succ n7 ih7 =>
  intro s14_8 hn;rw [Z35_l7];by_cases hlt:s14_8<a2.FKeys.l.length
  ·obtain⟨h7,hh7⟩:=Qa hlt;rw [Q.drop_of hh7,Z35_q7];refine QT hlt ?_;refine Q.bindPO hh7 fun x14 hx_x14=>?_;refine Q.bindPO (Z89_eq _ _) fun x16 hx_x16=>?_;refine Q.guardOO rfl fun x18=>?_;refine Q.guardOO rfl fun x19=>?_;refine Q.condO ?_ ?_
   ·all_goals exact hret _
   all_goals exact ih7 _ ⟨by omega,by omega⟩
  rw [dL (by omega),Z35_q7];refine QF hlt ?_;exact hend n7 s14_8
mutual
def fields_fits_qn:Nat->TDoc->TRef->Z10->Option Bool
 | 0,_,_,_=>none
 | n+1,a0,a1,a2=>bif (decide (a2.FKind=(7:Int))) then(some true) else(on (Z90_q a0 a1.FName) fun x7=>bif (!x7) then(some false) else(bif (decide (a2.FKind=(0:Int))) then(on (Z123_q a1) fun x13=>some (!x13)) else((Z121_q a1).bind fun x16=>bif x16.2 then(bif (!decide (a2.FKind=(5:Int))) then(((fields_fits_qn n) a0 x16.1 a2).bind fun x23=>some x23) else((Z105_qm a2.FItems (fun y0=>(fields_fits_1_qn n) y0 a0 x16.1)).bind fun x25=>some (!x25))) else(bif ((a1.FName==([73,110,116]:Bs))) then(some (((decide (a2.FKind=(2:Int)))&&(decide ((-2147483648:Int)<=a2.FInt)))&&(decide (a2.FInt<(2147483648:Int))))) else(bif ((a1.FName==([83,116,114,105,110,103]:Bs))) then(some (decide (a2.FKind=(3:Int)))) else(bif ((a1.FName==([66,111,111,108,101,97,110]:Bs))) then(some (decide (a2.FKind=(1:Int)))) else(bif ((a1.FName==([73,68]:Bs))) then(some ((decide (a2.FKind=(3:Int)))||(decide (a2.FKind=(2:Int))))) else(on (Z88_q a0 a1.FName) fun x41=>bif (decide (x41.1.FKind=(4:Int))) then(on (bif (decide (a2.FKind=(4:Int))) then Z107_q x41.1.FMembers (fun y0=>Z32_q y0 a2) else false) fun x46=>some ((decide (a2.FKind=(4:Int)))&&x46)) else(guardO ((decide (a2.FKind=(6:Int)))) ((Z35_qn n) a0 x41.1 a2) false fun x48=>some ((decide (a2.FKind=(6:Int)))&&x48))))))))))
def fields_fits_1_qn:Nat->Z10->TDoc->TRef->Option Bool
 | 0,_,_,_=>none
 | n+1,a0,a1,a2=>((fields_fits_qn n) a1 a2 a0).bind fun x3=>some (!x3)
def Z35_qn:Nat->TDoc->TDef->Z10->Option Bool
 | 0,_,_,_=>none
 | n+1,a0,a1,a2=>Option.bind (Z35_q7 a0 a1 a2 (fields_fits_qn n) a2.FKeys.l 0 ) fun o7=>match o7 with|Sum.inl _=>(on (()) fun _=>on (Z108_q a1.FInputs (fun y0=>Z36_q y0 a2)) fun x4=>some (!x4))|Sum.inr e7=>(some e7)
end
theorem fields_fits_qall:∀n:Nat,fields_fits_n n=fields_fits_qn n/\fields_fits_1_n n=fields_fits_1_qn n/\Z35_n n=Z35_qn n:=by
 intro n;induction n with
 | zero=>exact⟨(by funext a0 a1 a2; first|rfl|(rw [fields_fits_n,fields_fits_qn])),(by funext a0 a1 a2; first|rfl|(rw [fields_fits_1_n,fields_fits_1_qn])),(by funext a0 a1 a2; first|rfl|(rw [Z35_n,Z35_qn]))⟩
 | succ n ih =>
  refine⟨?_, ?_, ?_⟩
  ·funext a0 a1 a2
   refine Qs ?_;rw [fields_fits_n,fields_fits_qn];try rw [ih.1]
   try rw [ih.2.1]
   try rw [ih.2.2]
   refine Q.condO ?_ ?_
   ·all_goals rfl
   refine Q.bindPO (Z90_eq _ _) fun x7 hx_x7=>?_;refine Q.condO ?_ ?_
   ·all_goals rfl
   refine Q.condO ?_ ?_
   ·refine Q.bindPO (Z123_eq _) fun x13 hx_x13=>?_;all_goals rfl
   refine Q.bindO (Z121_eq _) fun x16=>?_;refine Q.condO ?_ ?_
   ·refine Q.condO ?_ ?_
    ·refine Q.bindO rfl fun x23=>?_;all_goals rfl
    refine Q.bindO (by simp only [Z105_eqm]) fun x25=>?_;all_goals rfl
   refine Q.condO ?_ ?_
   ·all_goals rfl
   refine Q.condO ?_ ?_
   ·all_goals rfl
   refine Q.condO ?_ ?_
   ·all_goals rfl
   refine Q.condO ?_ ?_
   ·all_goals rfl
   refine Q.bindPO (Z88_eq _ _) fun x41 hx_x41=>?_;refine Q.condO ?_ ?_
   ·refine Q.guardPO (by simp only [Z32_eq,Z107_eq]) fun x46 hx_x46=>?_;all_goals rfl
   refine Q.guardOO rfl fun x48=>?_;all_goals rfl
  ·funext a0 a1 a2
   refine Qs ?_;rw [fields_fits_1_n,fields_fits_1_qn];try rw [ih.1]
   try rw [ih.2.1]
   try rw [ih.2.2]
   refine Q.bindO rfl fun x3=>?_;all_goals rfl
  funext a0 a1 a2
  refine Qs ?_;rw [Z35_n,Z35_qn];try rw [ih.1]
  try rw [ih.2.1]
  try rw [ih.2.2]
  refine Q.wrapOO fun Kb7 hKb7=>?_;refine Z35_l7_qe  Kb7 ?_ ?_ _ _ ⟨Nat.succ_pos _,by omega⟩
  ·intro n7 s14_8;refine Qe (hKb7 _) ?_;try dsimp only
   refine Q.wrapPO fun Kj2 hKj2=>?_;have hj2:Z35_j2 a1 a2 =Kj2 ():=by
    refine Qe (hKj2 _) ?_;unfold Z35_j2;refine Q.bindPO (by simp only [Z36_eq,Z108_eq]) fun x4 hx_x4=>?_;all_goals rfl
   all_goals exact hj2
  intro e7;refine Qe (hKb7 _) ?_;try dsimp only
  all_goals rfl
def fields_fits_q (a0:TDoc) (a1:TRef) (a2:Z10):Option Bool:=fields_fits_qn F0 a0 a1 a2
theorem fields_fits_eq (a0:TDoc) (a1:TRef) (a2:Z10):fields_fits a0 a1 a2=fields_fits_q a0 a1 a2:=by
 unfold fields_fits fields_fits_q; rw [(fields_fits_qall F0).1]
def Z30_q3 (a1:(Sl Z7)) (a2:(Sl TArg)) (a3:Bool) (a4:Bs):List TArg->Nat->Z1->Option (Z1)
 | [],s20_4,y5_c0=>some y5_c0
 | h3::r3,s20_4,y5_c0=>on (h3) fun x12=>on (Z89_q a1 x12.FName) fun x14=>on ((⟨a2.nl,a2.l.take s20_4⟩:Sl TArg)) fun x16=>on (Z33_q x16 x12.FName) fun x17=>Option.bind (bif ((!x14.2)||x17.2) then((Z26_q y5_c0 true (22:Int) a4).bind fun x22=>some x22) else((fields_fits_q y5_c0.Fd x14.1.FType x12.FValue).bind fun x23=>(Z26_q y5_c0 ((!x23)||(a3&&(((decide (x12.FValue.FKind=(7:Int)))||((decide (x12.FValue.FKind=(3:Int)))&&((x12.FValue.FText==([]:Bs)))))||((decide (x12.FValue.FKind=(2:Int)))&&(decide (x12.FValue.FInt<(0:Int))))))) (23:Int) a4).bind fun x24=>some x24)) fun y10_c0=>Z30_q3 a1 a2 a3 a4 (r3) (s20_4+1) y10_c0
theorem Z30_l3_qe {a1:(Sl Z7)}{a2:(Sl TArg)}{a3:Bool}{a4:Bs}  (Kb3:(Z1)->Option Z1) (hend:∀(n3:Nat) (s20_4:Nat) (y5_c0:Z1),some y5_c0=Kb3 y5_c0):∀(n3:Nat) (s20_4:Nat) (y5_c0:Z1),(0<n3/\a2.l.length<s20_4+n3)->Z30_l3 a1 a2 a3 a4 n3 s20_4 y5_c0=Option.bind (Z30_q3 a1 a2 a3 a4 (a2.l.drop s20_4) s20_4 y5_c0) Kb3:=by
 intro n3;induction n3 with
 | zero=>intro s20_4 y5_c0 hn; exact absurd hn.1 (by omega)
 | succ n3 ih3 =>
  intro s20_4 y5_c0 hn;rw [Z30_l3];by_cases hlt:s20_4<a2.l.length
  ·obtain⟨h3,hh3⟩:=Qa hlt;rw [Q.drop_of hh3,Z30_q3];refine QT hlt ?_;refine Q.bindPO hh3 fun x12 hx_x12=>?_;refine Q.bindPO (Z89_eq _ _) fun x14 hx_x14=>?_;refine Q.bindPO (Q.partC_take (by omega)) fun x16 hx_x16=>?_;refine Q.bindPO (Z33_eq _ _) fun x17 hx_x17=>?_;refine Q.wrapOO fun Kj9 hKj9=>?_;have hj9:∀(y10_c0:Z1),Z30_j9 s20_4 (Z30_l3 a1 a2 a3 a4 n3) y10_c0=Kj9 y10_c0:=by
    intro y10_c0;refine Qe (hKj9 _) ?_;unfold Z30_j9;all_goals exact ih3 _ _ ⟨by omega,by omega⟩
   refine Q.condO ?_ ?_
   ·refine Q.bindO (Z26_eq _ _ _ _) fun x22=>?_;all_goals exact hj9 _
   refine Q.bindO (fields_fits_eq _ _ _) fun x23=>?_;refine Q.bindO (Z26_eq _ _ _ _) fun x24=>?_;all_goals exact hj9 _
  rw [dL (by omega),Z30_q3];refine QF hlt ?_;exact hend n3 s20_4 y5_c0
def Z30_q (a0:Z1) (a1:(Sl Z7)) (a2:(Sl TArg)) (a3:Bool) (a4:Bs):Option Z1:=Option.bind (Z30_q3 a1 a2 a3 a4 a2.l 0 a0) fun y5_c0=>some y5_c0
theorem Z30_eq (a0:Z1) (a1:(Sl Z7)) (a2:(Sl TArg)) (a3:Bool) (a4:Bs):Z30 a0 a1 a2 a3 a4=Z30_q a0 a1 a2 a3 a4:=by
 unfold Z30 Z30_q;refine Qs ?_;refine Q.wrapOO fun Kb3 hKb3=>?_;refine Z30_l3_qe  Kb3 ?_ _ _ _ ⟨Nat.succ_pos _,by omega⟩;intro n3 s20_4 y5_c0;refine Qe (hKb3 _) ?_;all_goals rfl
def Z27_q30 (a4:Bs) (x13:TDir):List Z7->Z1->Option (Z1)
 | [],y32_c0=>some y32_c0
 | h30::r30,y32_c0=>on (h30) fun x38=>on (Z33_q x13.FArgs x38.FName) fun x40=>(Z26_q y32_c0 (!x40.2) (22:Int) a4).bind fun x41=>Z27_q30 a4 x13 (r30) x41
theorem Z27_l30_qe {a4:Bs}{s21_5:Nat}{x13:TDir}{s13_18:(Sl Z7)}{k_next_4:Nat->Z1->Option Z1}  (Kb30:(Z1)->Option Z1) (hend:∀(n30:Nat) (s78_31:Nat) (y32_c0:Z1),Z27_j10 s21_5 k_next_4 y32_c0=Kb30 y32_c0):∀(n30:Nat) (s78_31:Nat) (y32_c0:Z1),(0<n30/\s13_18.l.length<s78_31+n30)->Z27_l30 a4 s21_5 x13 s13_18 k_next_4 n30 s78_31 y32_c0=Option.bind (Z27_q30 a4 x13 (s13_18.l.drop s78_31) y32_c0) Kb30:=by
 intro n30;induction n30 with
 | zero=>intro s78_31 y32_c0 hn; exact absurd hn.1 (by omega)
 | succ n30 ih30 =>
  intro s78_31 y32_c0 hn;rw [Z27_l30];by_cases hlt:s78_31<s13_18.l.length
  ·obtain⟨h30,hh30⟩:=Qa hlt;rw [Q.drop_of hh30,Z27_q30];refine QT hlt ?_;refine Q.bindPO hh30 fun x38 hx_x38=>?_;refine Q.bindPO (Z33_eq _ _) fun x40 hx_x40=>?_;refine Q.bindO (Z26_eq _ _ _ _) fun x41=>?_;all_goals exact ih30 _ _ ⟨by omega,by omega⟩
  rw [dL (by omega),Z27_q30];refine QF hlt ?_;exact hend n30 s78_31 y32_c0
def Z27_q4 (a1:TSel) (a2:TRef) (a3:Bool) (a4:Bs):List TDir->Nat->Z1->Option (Z1)
 | [],s21_5,y6_c0=>some y6_c0
 | h4::r4,s21_5,y6_c0=>on (h4) fun x13=>(Z25_q x13.FName ((!decide (a1.FKind=(2:Int)))&&(!decide (a1.FKind=(3:Int))))).bind fun x16=>guardO ((((x13.FName==([115,116,114,101,97,109]:Bs)))&&a3)) (Z122_q a2) false fun x43=>on (bif ((((x13.FName==([115,116,114,101,97,109]:Bs)))&&a3)&&(!x43)) then((Sl.nil:Sl Z7)) else(x16)) fun s13_18=>on (bif !s13_18.nl then(⟨a1.FDirs.nl,a1.FDirs.l.take s21_5⟩:Sl TDir) else(Sl.nil:Sl TDir)) fun x21=>on (bif !s13_18.nl then Z106_q x21 (fun y0=>Z28_q y0 x13) else false) fun x22=>Option.bind (bif (s13_18.nl||x22) then((Z26_q y6_c0 true (29:Int) a4).bind fun x25=>some x25) else((Z30_q y6_c0 s13_18 x13.FArgs (((x13.FName==([100,101,102,101,114]:Bs)))||((x13.FName==([115,116,114,101,97,109]:Bs)))) a4).bind fun x27=>Option.bind (Z27_q30 a4 x13 s13_18.l x27) fun y32_c0=>some y32_c0)) fun y11_c0=>Z27_q4 a1 a2 a3 a4 (r4) (s21_5+1) y11_c0
theorem Z27_l4_qe {a1:TSel}{a2:TRef}{a3:Bool}{a4:Bs}  (Kb4:(Z1)->Option Z1) (hend:∀(n4:Nat) (s21_5:Nat) (y6_c0:Z1),some y6_c0=Kb4 y6_c0):∀(n4:Nat) (s21_5:Nat) (y6_c0:Z1),(0<n4/\a1.FDirs.l.length<s21_5+n4)->Z27_l4 a1 a2 a3 a4 n4 s21_5 y6_c0=Option.bind (Z27_q4 a1 a2 a3 a4 (a1.FDirs.l.drop s21_5) s21_5 y6_c0) Kb4:=by
 intro n4;induction n4 with
 | zero=>intro s21_5 y6_c0 hn; exact absurd hn.1 (by omega)
 | succ n4 ih4 =>
  intro s21_5 y6_c0 hn;rw [Z27_l4];by_cases hlt:s21_5<a1.FDirs.l.length
  ·obtain⟨h4,hh4⟩:=Qa hlt;rw [Q.drop_of hh4,Z27_q4];refine QT hlt ?_;refine Q.bindPO hh4 fun x13 hx_x13=>?_;refine Q.bindO (Z25_eq _ _) fun x16=>?_;refine Q.guardOO (Z122_eq _) fun x43=>?_;refine Q.wrapPO fun Kj17 hKj17=>?_;have hj17:∀(s13_18:(Sl Z7)),Z27_j17 a1 a4 s21_5 y6_c0 x13 (Z27_l4 a1 a2 a3 a4 n4) s13_18=Kj17 s13_18:=by
    intro s13_18;refine Qe (hKj17 _) ?_;unfold Z27_j17;refine Q.guardPO (Q.partC_take (by omega)) fun x21 hx_x21=>?_;refine Q.guardPO (by simp only [Z28_eq,Z106_eq]) fun x22 hx_x22=>?_;refine Q.wrapOO fun Kj10 hKj10=>?_;have hj10:∀(y11_c0:Z1),Z27_j10 s21_5 (Z27_l4 a1 a2 a3 a4 n4) y11_c0=Kj10 y11_c0:=by
     intro y11_c0;refine Qe (hKj10 _) ?_;unfold Z27_j10;all_goals exact ih4 _ _ ⟨by omega,by omega⟩
    refine Q.condO ?_ ?_
    ·refine Q.bindO (Z26_eq _ _ _ _) fun x25=>?_;all_goals exact hj10 _
    refine Q.bindO (Z30_eq _ _ _ _ _) fun x27=>?_;refine Q.wrapOO fun Kb30 hKb30=>?_;refine Z27_l30_qe  Kb30 ?_ _ _ _ ⟨Nat.succ_pos _,by omega⟩;intro n30 s78_31 y32_c0;refine Qe (hKb30 _) ?_;all_goals exact hj10 _
   refine Q.condP ?_ ?_
   ·all_goals exact hj17 _
   all_goals exact hj17 _
  rw [dL (by omega),Z27_q4];refine QF hlt ?_;exact hend n4 s21_5 y6_c0
def Z27_q (a0:Z1) (a1:TSel) (a2:TRef) (a3:Bool) (a4:Bs):Option Z1:=Option.bind (Z27_q4 a1 a2 a3 a4 a1.FDirs.l 0 a0) fun y6_c0=>some y6_c0
theorem Z27_eq (a0:Z1) (a1:TSel) (a2:TRef) (a3:Bool) (a4:Bs):Z27 a0 a1 a2 a3 a4=Z27_q a0 a1 a2 a3 a4:=by
 unfold Z27 Z27_q;refine Qs ?_;refine Q.wrapOO fun Kb4 hKb4=>?_;refine Z27_l4_qe  Kb4 ?_ _ _ _ ⟨Nat.succ_pos _,by omega⟩;intro n4 s21_5 y6_c0;refine Qe (hKb4 _) ?_;all_goals rfl
def Z24_q (a0:TDoc) (a1:Bs) (a2:Bs):Option (TRef×Bool):=on (Z86_q a0 a1) fun x4=>bif (!x4) then(some ((TRef.mk ([]:Bs) (Sl.nil:Sl Int)),false)) else(bif ((a2==([95,95,116,121,112,101,110,97,109,101]:Bs))) then(on (Z124_q ([83,116,114,105,110,103]:Bs)) fun x11=>(Z125_q x11).bind fun x12=>some (x12,true)) else(on (Z88_q a0 a1) fun x14=>on (Z87_q x14.1 a2) fun x16=>bif (!x16.2) then(some ((TRef.mk ([]:Bs) (Sl.nil:Sl Int)),false)) else((Z104_q x16.1.FType.FWraps).bind fun x22=>some ((TRef.mk x16.1.FType.FName x22),true))))
theorem Z24_eq (a0:TDoc) (a1:Bs) (a2:Bs):Z24 a0 a1 a2=Z24_q a0 a1 a2:=by
 unfold Z24 Z24_q;refine Qs ?_;refine Q.bindPO (Z86_eq _ _) fun x4 hx_x4=>?_;refine Q.condO ?_ ?_
 ·all_goals rfl
 refine Q.condO ?_ ?_
 ·refine Q.bindPO (Z124_eq _) fun x11 hx_x11=>?_;refine Q.bindO (Z125_eq _) fun x12=>?_;all_goals rfl
 refine Q.bindPO (Z88_eq _ _) fun x14 hx_x14=>?_;refine Q.bindPO (Z87_eq _ _) fun x16 hx_x16=>?_;refine Q.condO ?_ ?_
 ·all_goals rfl
 refine Q.bindO (Z104_eq _) fun x22=>?_;all_goals rfl
def fields_checker_sels_q3 (a2:Bs) (a3:Bs) (k_rec_31:Z1->(Sl TSel)->Bs->Bs->Option Z1) (k_rec_59:Z1->TSel->Bs->Bs->Option Z1):List TSel->Z1->Option (Z1)
 | [],y5_c0=>some y5_c0
 | h3::r3,y5_c0=>on (h3) fun x12=>Option.bind (bif (decide (x12.FKind=(2:Int))) then((Z27_q y5_c0 x12 (TRef.mk ([]:Bs) (Sl.nil:Sl Int)) false a3).bind fun x16=>some x16) else(bif (decide (x12.FKind=(3:Int))) then((Z27_q y5_c0 x12 (TRef.mk ([]:Bs) (Sl.nil:Sl Int)) false a3).bind fun x20=>on (bif (!(x12.FOn==([]:Bs))) then(x12.FOn) else(a2)) fun s10_23=>(k_rec_31 x20 x12.FSels s10_23 a3).bind fun x24=>some x24) else((k_rec_59 y5_c0 x12 a2 a3).bind fun x27=>some x27))) fun y10_c0=>fields_checker_sels_q3 a2 a3 k_rec_31 k_rec_59 (r3) y10_c0
theorem fields_checker_sels_l3_qe {a1:(Sl TSel)}{a2:Bs}{a3:Bs}{k_rec_31:Z1->(Sl TSel)->Bs->Bs->Option Z1}{k_rec_59:Z1->TSel->Bs->Bs->Option Z1}  (Kb3:(Z1)->Option Z1) (hend:∀(n3:Nat) (s13_4:Nat) (y5_c0:Z1),some y5_c0=Kb3 y5_c0):∀(n3:Nat) (s13_4:Nat) (y5_c0:Z1),(0<n3/\a1.l.length<s13_4+n3)->fields_checker_sels_l3 a1 a2 a3 k_rec_31 k_rec_59 n3 s13_4 y5_c0=Option.bind (fields_checker_sels_q3 a2 a3 k_rec_31 k_rec_59 (a1.l.drop s13_4) y5_c0) Kb3:=by
 intro n3;induction n3 with
 | zero=>intro s13_4 y5_c0 hn; exact absurd hn.1 (by omega)
 | succ n3 ih3 =>
  intro s13_4 y5_c0 hn;rw [fields_checker_sels_l3];by_cases hlt:s13_4<a1.l.length
  ·obtain⟨h3,hh3⟩:=Qa hlt;rw [Q.drop_of hh3,fields_checker_sels_q3];refine QT hlt ?_;refine Q.bindPO hh3 fun x12 hx_x12=>?_;refine Q.wrapOO fun Kj9 hKj9=>?_;have hj9:∀(y10_c0:Z1),fields_checker_sels_j9 s13_4 (fields_checker_sels_l3 a1 a2 a3 k_rec_31 k_rec_59 n3) y10_c0=Kj9 y10_c0:=by
    intro y10_c0;refine Qe (hKj9 _) ?_;unfold fields_checker_sels_j9;all_goals exact ih3 _ _ ⟨by omega,by omega⟩
   refine Q.condO ?_ ?_
   ·refine Q.bindO (Z27_eq _ _ _ _ _) fun x16=>?_;all_goals exact hj9 _
   refine Q.condO ?_ ?_
   ·refine Q.bindO (Z27_eq _ _ _ _ _) fun x20=>?_;refine Q.wrapPO fun Kj22 hKj22=>?_;have hj22:∀(s10_23:Bs),fields_checker_sels_j22 a3 s13_4 x12 x20 (fields_checker_sels_l3 a1 a2 a3 k_rec_31 k_rec_59 n3) k_rec_31 s10_23=Kj22 s10_23:=by
     intro s10_23;refine Qe (hKj22 _) ?_;unfold fields_checker_sels_j22;refine Q.bindO rfl fun x24=>?_;all_goals exact hj9 _
    refine Q.condP ?_ ?_
    ·all_goals exact hj22 _
    all_goals exact hj22 _
   refine Q.bindO rfl fun x27=>?_;all_goals exact hj9 _
  rw [dL (by omega),fields_checker_sels_q3];refine QF hlt ?_;exact hend n3 s13_4 y5_c0
def Z29_q37 (a1:TSel) (x7:Bs):List Z7->Z1->Option (Z1)
 | [],y39_c0=>some y39_c0
 | h37::r37,y39_c0=>on (h37) fun x45=>on (Z33_q a1.FArgs x45.FName) fun x47=>on (Z123_q x45.FType) fun x48=>(Z26_q y39_c0 ((x48&&(!x45.FHas))&&(!x47.2)) (22:Int) x7).bind fun x49=>Z29_q37 a1 x7 (r37) x49
theorem Z29_l37_qe {a1:TSel}{x7:Bs}{x12:(TRef×Bool)}{y32_l0:Z5}{k_rec_31:Z1->(Sl TSel)->Bs->Bs->Option Z1}  (Kb37:(Z1)->Option Z1) (hend:∀(n37:Nat) (s122_38:Nat) (y39_c0:Z1),Z29_j16 a1 x7 x12 k_rec_31 y39_c0=Kb37 y39_c0):∀(n37:Nat) (s122_38:Nat) (y39_c0:Z1),(0<n37/\y32_l0.FArgs.l.length<s122_38+n37)->Z29_l37 a1 x7 x12 y32_l0 k_rec_31 n37 s122_38 y39_c0=Option.bind (Z29_q37 a1 x7 (y32_l0.FArgs.l.drop s122_38) y39_c0) Kb37:=by
 intro n37;induction n37 with
 | zero=>intro s122_38 y39_c0 hn; exact absurd hn.1 (by omega)
 | succ n37 ih37 =>
  intro s122_38 y39_c0 hn;rw [Z29_l37];by_cases hlt:s122_38<y32_l0.FArgs.l.length
  ·obtain⟨h37,hh37⟩:=Qa hlt;rw [Q.drop_of hh37,Z29_q37];refine QT hlt ?_;refine Q.bindPO hh37 fun x45 hx_x45=>?_;refine Q.bindPO (Z33_eq _ _) fun x47 hx_x47=>?_;refine Q.bindPO (Z123_eq _) fun x48 hx_x48=>?_;refine Q.bindO (Z26_eq _ _ _ _) fun x49=>?_;all_goals exact ih37 _ _ ⟨by omega,by omega⟩
  rw [dL (by omega),Z29_q37];refine QF hlt ?_;exact hend n37 s122_38 y39_c0
mutual
def fields_checker_sels_qn:Nat->Z1->(Sl TSel)->Bs->Bs->Option Z1
 | 0,_,_,_,_=>none
 | n+1,a0,a1,a2,a3=>Option.bind (fields_checker_sels_q3 a2 a3 (fields_checker_sels_qn n) (Z29_qn n) a1.l a0) fun y5_c0=>some y5_c0
def Z29_qn:Nat->Z1->TSel->Bs->Bs->Option Z1
 | 0,_,_,_,_=>none
 | n+1,a0,a1,a2,a3=>on (bif ((a1.FAlias==([]:Bs))) then(a1.FName) else(a1.FAlias)) fun s8_4=>(catC ([47]:Bs) s8_4).bind fun x6=>(catC a3 x6).bind fun x7=>on (Z120_q a1.FAlias) fun x9=>(Z26_q a0 x9 (6:Int) x7).bind fun x10=>(Z24_q x10.Fd a2 a1.FName).bind fun x12=>on (bif (!x12.2) then Z86_q x10.Fd a2 else false) fun x14=>(Z26_q x10 ((!x12.2)&&x14) (20:Int) x7).bind fun x15=>Option.bind (bif x12.2 then(on (Z91_q x15.Fd x12.1.FName) fun x24=>on (bif !(x24&&(decide ((0:Int)<((a1.FSels.l.length:Nat):Int)))) then Z86_q x15.Fd x12.1.FName else false) fun x26=>(Z26_q x15 ((x24&&(decide ((0:Int)<((a1.FSels.l.length:Nat):Int))))||(x26&&(decide (((a1.FSels.l.length:Nat):Int)=(0:Int))))) (21:Int) x7).bind fun x27=>on (Z88_q x27.Fd a2) fun x29=>on (bif (!(a1.FName==([95,95,116,121,112,101,110,97,109,101]:Bs))) then(on (Z87_q x29.1 a1.FName) fun x52=>x52.1) else((Z5.mk ([]:Bs) (Sl.nil:Sl Z7) TRef.zero (Sl.nil:Sl TDir)))) fun y32_l0=>(Z30_q x27 y32_l0.FArgs a1.FArgs false x7).bind fun x34=>Option.bind (Z29_q37 a1 x7 y32_l0.FArgs.l x34) fun y39_c0=>some y39_c0) else(some x15)) fun y17_c0=>(Z27_q y17_c0 a1 x12.1 x12.2 x7).bind fun x19=>((fields_checker_sels_qn n) x19 a1.FSels x12.1.FName x7).bind fun x20=>some x20
end
theorem fields_checker_sels_qall:∀n:Nat,fields_checker_sels_n n=fields_checker_sels_qn n/\Z29_n n=Z29_qn n:=by
 intro n;induction n with
 | zero=>exact⟨(by funext a0 a1 a2 a3; first|rfl|(rw [fields_checker_sels_n,fields_checker_sels_qn])),(by funext a0 a1 a2 a3; first|rfl|(rw [Z29_n,Z29_qn]))⟩
 | succ n ih =>
  refine⟨?_, ?_⟩
  ·funext a0 a1 a2 a3
   refine Qs ?_;rw [fields_checker_sels_n,fields_checker_sels_qn];try rw [ih.1]
   try rw [ih.2]
   refine Q.wrapOO fun Kb3 hKb3=>?_;refine fields_checker_sels_l3_qe  Kb3 ?_ _ _ _ ⟨Nat.succ_pos _,by omega⟩;intro n3 s13_4 y5_c0;refine Qe (hKb3 _) ?_;all_goals rfl
  funext a0 a1 a2 a3
  refine Qs ?_;rw [Z29_n,Z29_qn];try rw [ih.1]
  try rw [ih.2]
  refine Q.wrapPO fun Kj3 hKj3=>?_;have hj3:∀(s8_4:Bs),Z29_j3 a0 a1 a2 a3 (fields_checker_sels_qn n) s8_4=Kj3 s8_4:=by
   intro s8_4;refine Qe (hKj3 _) ?_;unfold Z29_j3;refine Q.bindO rfl fun x6=>?_;refine Q.bindO rfl fun x7=>?_;refine Q.bindPO (Z120_eq _) fun x9 hx_x9=>?_;refine Q.bindO (Z26_eq _ _ _ _) fun x10=>?_;refine Q.bindO (Z24_eq _ _ _) fun x12=>?_;refine Q.guardPO (Z86_eq _ _) fun x14 hx_x14=>?_;refine Q.bindO (Z26_eq _ _ _ _) fun x15=>?_;refine Q.wrapOO fun Kj16 hKj16=>?_;have hj16:∀(y17_c0:Z1),Z29_j16 a1 x7 x12 (fields_checker_sels_qn n) y17_c0=Kj16 y17_c0:=by
    intro y17_c0;refine Qe (hKj16 _) ?_;unfold Z29_j16;refine Q.bindO (Z27_eq _ _ _ _ _) fun x19=>?_;refine Q.bindO rfl fun x20=>?_;all_goals rfl
   refine Q.condO ?_ ?_
   ·refine Q.bindPO (Z91_eq _ _) fun x24 hx_x24=>?_;refine Q.guardPO (Z86_eq _ _) fun x26 hx_x26=>?_;refine Q.bindO (Z26_eq _ _ _ _) fun x27=>?_;refine Q.bindPO (Z88_eq _ _) fun x29 hx_x29=>?_;refine Q.wrapPO fun Kj31 hKj31=>?_;have hj31:∀(y32_l0:Z5),Z29_j31 a1 x7 x12 x27 (fields_checker_sels_qn n) y32_l0=Kj31 y32_l0:=by
     intro y32_l0;refine Qe (hKj31 _) ?_;unfold Z29_j31;refine Q.bindO (Z30_eq _ _ _ _ _) fun x34=>?_;refine Q.wrapOO fun Kb37 hKb37=>?_;refine Z29_l37_qe  Kb37 ?_ _ _ _ ⟨Nat.succ_pos _,by omega⟩;intro n37 s122_38 y39_c0;refine Qe (hKb37 _) ?_;all_goals exact hj16 _
    refine Q.condP ?_ ?_
    ·refine Q.bindP (Z87_eq _ _) fun x52 hx_x52=>?_;all_goals exact hj31 _
    all_goals exact hj31 _
   all_goals exact hj16 _
  refine Q.condP ?_ ?_
  ·all_goals exact hj3 _
  all_goals exact hj3 _
def fields_checker_sels_q (a0:Z1) (a1:(Sl TSel)) (a2:Bs) (a3:Bs):Option Z1:=fields_checker_sels_qn F0 a0 a1 a2 a3
theorem fields_checker_sels_eq (a0:Z1) (a1:(Sl TSel)) (a2:Bs) (a3:Bs):fields_checker_sels a0 a1 a2 a3=fields_checker_sels_q a0 a1 a2 a3:=by
 unfold fields_checker_sels fields_checker_sels_q; rw [(fields_checker_sels_qall F0).1]
def Z23_q24 (a0:TDoc):List TOp->Z1->Option (Z1)
 | [],y26_id18_3=>some y26_id18_3
 | h24::r24,y26_id18_3=>on (h24) fun x32=>on (Z92_q x32.FKind) fun x34=>on (Z88_q a0 x34) fun x36=>(Z31_q y26_id18_3 x32.FSels ([]:List Bs) ([]:List Bs)).bind fun x41=>(Z26_q y26_id18_3 (((!x36.2)||(!decide (x36.1.FKind=(1:Int))))||((decide (x32.FKind=(3:Int)))&&(!decide ((((seenM x41.1).length:Nat):Int)=(1:Int))))) (30:Int) x32.FName).bind fun x44=>(fields_checker_sels_q x44 x32.FSels x34 x32.FName).bind fun x45=>Z23_q24 a0 (r24) x45
theorem Z23_l24_qe {a0:TDoc}{a1:Z9}  (Kb24:(Z1)->Option (Sl Z4)) (hend:∀(n24:Nat) (s22_25:Nat) (y26_id18_3:Z1),Z23_j5 a1  y26_id18_3=Kb24 y26_id18_3):∀(n24:Nat) (s22_25:Nat) (y26_id18_3:Z1),(0<n24/\a1.FOps.l.length<s22_25+n24)->Z23_l24 a0 a1 n24 s22_25 y26_id18_3=Option.bind (Z23_q24 a0 (a1.FOps.l.drop s22_25) y26_id18_3) Kb24:=by
 intro n24;induction n24 with
 | zero=>intro s22_25 y26_id18_3 hn; exact absurd hn.1 (by omega)
 | succ n24 ih24 =>
  intro s22_25 y26_id18_3 hn;rw [Z23_l24];by_cases hlt:s22_25<a1.FOps.l.length
  ·obtain⟨h24,hh24⟩:=Qa hlt;rw [Q.drop_of hh24,Z23_q24];refine QT hlt ?_;refine Q.bindPO hh24 fun x32 hx_x32=>?_;refine Q.bindPO (Z92_eq _) fun x34 hx_x34=>?_;refine Q.bindPO (Z88_eq _ _) fun x36 hx_x36=>?_;refine Q.bindO (Z31_eq _ _ _ _) fun x41=>?_;refine Q.bindO (Z26_eq _ _ _ _) fun x44=>?_;refine Q.bindO (fields_checker_sels_eq _ _ _ _) fun x45=>?_;all_goals exact ih24 _ _ ⟨by omega,by omega⟩
  rw [dL (by omega),Z23_q24];refine QF hlt ?_;exact hend n24 s22_25 y26_id18_3
def Z23_q12 :List Z6->Z1->Option (Z1)
 | [],y14_id18_3=>some y14_id18_3
 | h12::r12,y14_id18_3=>on (h12) fun x20=>(fields_checker_sels_q y14_id18_3 x20.FSels x20.FOn x20.FName).bind fun x21=>Z23_q12  (r12) x21
theorem Z23_l12_qe {a1:Z9}  (Kb12:(Z1)->Option (Sl Z4)) (hend:∀(n12:Nat) (s75_13:Nat) (y14_id18_3:Z1),Z23_j7   y14_id18_3=Kb12 y14_id18_3):∀(n12:Nat) (s75_13:Nat) (y14_id18_3:Z1),(0<n12/\a1.FFrags.l.length<s75_13+n12)->Z23_l12 a1 n12 s75_13 y14_id18_3=Option.bind (Z23_q12  (a1.FFrags.l.drop s75_13) y14_id18_3) Kb12:=by
 intro n12;induction n12 with
 | zero=>intro s75_13 y14_id18_3 hn; exact absurd hn.1 (by omega)
 | succ n12 ih12 =>
  intro s75_13 y14_id18_3 hn;rw [Z23_l12];by_cases hlt:s75_13<a1.FFrags.l.length
  ·obtain⟨h12,hh12⟩:=Qa hlt;rw [Q.drop_of hh12,Z23_q12];refine QT hlt ?_;refine Q.bindPO hh12 fun x20 hx_x20=>?_;refine Q.bindO (fields_checker_sels_eq _ _ _ _) fun x21=>?_;all_goals exact ih12 _ _ ⟨by omega,by omega⟩
  rw [dL (by omega),Z23_q12];refine QF hlt ?_;exact hend n12 s75_13 y14_id18_3
def Z23_q (a0:TDoc) (a1:Z9):Option (Sl Z4):=Option.bind (Z23_q24 a0 a1.FOps.l (Z1.mk a0 a1 (Sl.nil:Sl Z4))) fun y26_id18_3=>on (y26_id18_3) fun y6_id18_3=>Option.bind (Z23_q12  a1.FFrags.l y6_id18_3) fun y14_id18_3=>on (y14_id18_3) fun y8_id18_3=>some y8_id18_3.Fout
theorem Z23_eq (a0:TDoc) (a1:Z9):Z23 a0 a1=Z23_q a0 a1:=by
 unfold Z23 Z23_q;refine Qs ?_;refine Q.wrapOO fun Kb24 hKb24=>?_;refine Z23_l24_qe  Kb24 ?_ _ _ _ ⟨Nat.succ_pos _,by omega⟩;intro n24 s22_25 y26_id18_3;refine Qe (hKb24 _) ?_;refine Q.wrapPO fun Kj5 hKj5=>?_;have hj5:∀(y6_id18_3:Z1),Z23_j5 a1 y6_id18_3=Kj5 y6_id18_3:=by
  intro y6_id18_3;refine Qe (hKj5 _) ?_;unfold Z23_j5;refine Q.wrapOO fun Kb12 hKb12=>?_;refine Z23_l12_qe  Kb12 ?_ _ _ _ ⟨Nat.succ_pos _,by omega⟩;intro n12 s75_13 y14_id18_3;refine Qe (hKb12 _) ?_;refine Q.wrapPO fun Kj7 hKj7=>?_;have hj7:∀(y8_id18_3:Z1),Z23_j7  y8_id18_3=Kj7 y8_id18_3:=by
   intro y8_id18_3;refine Qe (hKj7 _) ?_;unfold Z23_j7;all_goals rfl
  all_goals exact hj7 _
 all_goals exact hj5 _
def Z49_q5 (a0:TDoc) (a2:Bs) (k_rec_10:TDoc->(Sl TSel)->Bs->Option Bool):List TSel->Option (Unit ⊕ Bool)
 | []=>some (Sum.inl ())
 | h5::r5=>on (h5) fun x21=>on (fun(_:Unit)=>Z49_q5 a0 a2 k_rec_10 (r5) ) fun kj11=>bif (decide (x21.FKind=(2:Int))) then(kj11 ()) else(on (fun(s8_14:Bs)=>on (h5) fun x16=>(k_rec_10 a0 x16.FSels s8_14).bind fun x17=>bif (!x17) then(some (Sum.inr false)) else(kj11 ())) fun kj13=>bif (decide (x21.FKind=(3:Int))) then(on (h5) fun x27=>bif (!(x27.FOn==([]:Bs))) then(on (h5) fun x29=>kj13 x29.FOn) else(kj13 a2)) else(on (h5) fun x31=>(Z24_q a0 a2 x31.FName).bind fun x32=>bif (!x32.2) then(some (Sum.inr false)) else(kj13 x32.1.FName)))
theorem Z49_l5_qe {a0:TDoc}{a1:(Sl TSel)}{a2:Bs}{k_rec_10:TDoc->(Sl TSel)->Bs->Option Bool}  (Kb5:(Unit ⊕ Bool)->Option Bool) (hend:∀(n5:Nat) (s7_6:Nat),Z49_j2   =Kb5 (Sum.inl ())) (hret:∀e:Bool,some e=Kb5 (Sum.inr e)):∀(n5:Nat) (s7_6:Nat),(0<n5/\a1.l.length<s7_6+n5)->Z49_l5 a0 a1 a2 k_rec_10 n5 s7_6=Option.bind (Z49_q5 a0 a2 k_rec_10 (a1.l.drop s7_6) ) Kb5:=by
 intro n5;induction n5 with
 | zero=>intro s7_6 hn; exact absurd hn.1 (by omega)
 | succ n5 ih5 =>
  intro s7_6 hn;rw [Z49_l5];by_cases hlt:s7_6<a1.l.length
  ·obtain⟨h5,hh5⟩:=Qa hlt;rw [Q.drop_of hh5,Z49_q5];refine QT hlt ?_;refine Q.bindPO hh5 fun x21 hx_x21=>?_;refine Q.mixO fun kj11 hkj11=>?_;have hj11:Z49_j11 s7_6 (Z49_l5 a0 a1 a2 k_rec_10 n5) =Option.bind (kj11 ()) Kb5:=by
    unfold Z49_j11;rw [hkj11];try dsimp only
    all_goals exact ih5 _ ⟨by omega,by omega⟩
   refine Q.condO ?_ ?_
   ·all_goals exact hj11
   refine Q.mixO fun kj13 hkj13=>?_;have hj13:∀(s8_14:Bs),Z49_j13 a0 a1 s7_6 (Z49_l5 a0 a1 a2 k_rec_10 n5) k_rec_10 s8_14=Option.bind (kj13 s8_14) Kb5:=by
    intro s8_14;unfold Z49_j13;rw [hkj13];try dsimp only
    refine Q.bindPO hh5 fun x16 hx_x16=>?_;refine Q.bindO rfl fun x17=>?_;refine Q.condO ?_ ?_
    ·all_goals exact hret _
    all_goals exact hj11
   refine Q.condO ?_ ?_
   ·refine Q.bindPO hh5 fun x27 hx_x27=>?_;refine Q.condO ?_ ?_
    ·refine Q.bindPO hh5 fun x29 hx_x29=>?_;all_goals exact hj13 _
    all_goals exact hj13 _
   refine Q.bindPO hh5 fun x31 hx_x31=>?_;refine Q.bindO (Z24_eq _ _ _) fun x32=>?_;refine Q.condO ?_ ?_
   ·all_goals exact hret _
   all_goals exact hj13 _
  rw [dL (by omega),Z49_q5];refine QF hlt ?_;exact hend n5 s7_6
def Z49_qn:Nat->TDoc->(Sl TSel)->Bs->Option Bool
 | 0,_,_,_=>none
 | n+1,a0,a1,a2=>Option.bind (Z49_q5 a0 a2 (Z49_qn n) a1.l ) fun o5=>match o5 with|Sum.inl _=>(on (()) fun _=>some true)|Sum.inr e5=>(some e5)
theorem Z49_qall:∀n:Nat,Z49_n n=Z49_qn n:=by
 intro n;induction n with
 | zero=>exact(by funext a0 a1 a2; first|rfl|(rw [Z49_n,Z49_qn]))
 | succ n ih =>
  funext a0 a1 a2
  refine Qs ?_;rw [Z49_n,Z49_qn];try rw [ih]
  refine Q.wrapOO fun Kb5 hKb5=>?_;refine Z49_l5_qe  Kb5 ?_ ?_ _ _ ⟨Nat.succ_pos _,by omega⟩
  ·intro n5 s7_6;refine Qe (hKb5 _) ?_;try dsimp only
   refine Q.wrapPO fun Kj2 hKj2=>?_;have hj2:Z49_j2  =Kj2 ():=by
    refine Qe (hKj2 _) ?_;unfold Z49_j2;all_goals rfl
   all_goals exact hj2
  intro e5;refine Qe (hKb5 _) ?_;try dsimp only
  all_goals rfl
def Z49_q (a0:TDoc) (a1:(Sl TSel)) (a2:Bs):Option Bool:=Z49_qn F0 a0 a1 a2
theorem Z49_eq (a0:TDoc) (a1:(Sl TSel)) (a2:Bs):Z49 a0 a1 a2=Z49_q a0 a1 a2:=by
 unfold Z49 Z49_q; rw [(Z49_qall F0)]
def Z45_q31 (a0:TDoc):List TOp->Option (Unit ⊕ Bool)
 | []=>some (Sum.inl ())
 | h31::r31=>on (h31) fun x39=>on (h31) fun x40=>on (Z92_q x40.FKind) fun x41=>(Z49_q a0 x39.FSels x41).bind fun x42=>bif (!x42) then(some (Sum.inr false)) else(Z45_q31 a0 (r31) )
theorem Z45_l31_qe {a0:TDoc}{a1:Z9}  (Kb31:(Unit ⊕ Bool)->Option Bool) (hend:∀(n31:Nat) (s5_32:Nat),Z45_j12 a0 a1  =Kb31 (Sum.inl ())) (hret:∀e:Bool,some e=Kb31 (Sum.inr e)):∀(n31:Nat) (s5_32:Nat),(0<n31/\a1.FOps.l.length<s5_32+n31)->Z45_l31 a0 a1 n31 s5_32=Option.bind (Z45_q31 a0 (a1.FOps.l.drop s5_32) ) Kb31:=by
 intro n31;induction n31 with
 | zero=>intro s5_32 hn; exact absurd hn.1 (by omega)
 | succ n31 ih31 =>
  intro s5_32 hn;rw [Z45_l31];by_cases hlt:s5_32<a1.FOps.l.length
  ·obtain⟨h31,hh31⟩:=Qa hlt;rw [Q.drop_of hh31,Z45_q31];refine QT hlt ?_;refine Q.bindPO hh31 fun x39 hx_x39=>?_;refine Q.bindPO hh31 fun x40 hx_x40=>?_;refine Q.bindPO (Z92_eq _) fun x41 hx_x41=>?_;refine Q.bindO (Z49_eq _ _ _) fun x42=>?_;refine Q.condO ?_ ?_
   ·all_goals exact hret _
   all_goals exact ih31 _ ⟨by omega,by omega⟩
  rw [dL (by omega),Z45_q31];refine QF hlt ?_;exact hend n31 s5_32
def Z45_q17 (a0:TDoc):List Z6->Option (Unit ⊕ Bool)
 | []=>some (Sum.inl ())
 | h17::r17=>on (h17) fun x25=>on (h17) fun x26=>(Z49_q a0 x25.FSels x26.FOn).bind fun x27=>bif (!x27) then(some (Sum.inr false)) else(Z45_q17 a0 (r17) )
theorem Z45_l17_qe {a0:TDoc}{a1:Z9}  (Kb17:(Unit ⊕ Bool)->Option Bool) (hend:∀(n17:Nat) (s6_18:Nat),Z45_j13   =Kb17 (Sum.inl ())) (hret:∀e:Bool,some e=Kb17 (Sum.inr e)):∀(n17:Nat) (s6_18:Nat),(0<n17/\a1.FFrags.l.length<s6_18+n17)->Z45_l17 a0 a1 n17 s6_18=Option.bind (Z45_q17 a0 (a1.FFrags.l.drop s6_18) ) Kb17:=by
 intro n17;induction n17 with
 | zero=>intro s6_18 hn; exact absurd hn.1 (by omega)
 | succ n17 ih17 =>
  intro s6_18 hn;rw [Z45_l17];by_cases hlt:s6_18<a1.FFrags.l.length
  ·obtain⟨h17,hh17⟩:=Qa hlt;rw [Q.drop_of hh17,Z45_q17];refine QT hlt ?_;refine Q.bindPO hh17 fun x25 hx_x25=>?_;refine Q.bindPO hh17 fun x26 hx_x26=>?_;refine Q.bindO (Z49_eq _ _ _) fun x27=>?_;refine Q.condO ?_ ?_
   ·all_goals exact hret _
   all_goals exact ih17 _ ⟨by omega,by omega⟩
  rw [dL (by omega),Z45_q17];refine QF hlt ?_;exact hend n17 s6_18
def Z45_q (a0:TDoc) (a1:Z9):Option Bool:=(Z47_q a0 a1).bind fun x4=>guardO (!(!x4)) (Z85_q a0 true) (Sl.nil:Sl Z4) fun x5=>guardO (!((!x4)||(decide ((0:Int)<((x5.l.length:Nat):Int))))) (Z11_q a0) (Sl.nil:Sl Z4) fun x6=>guardO (!(((!x4)||(decide ((0:Int)<((x5.l.length:Nat):Int))))||(decide ((0:Int)<((x6.l.length:Nat):Int))))) (Z37_q a0 a1) (Sl.nil:Sl Z4) fun x7=>guardO (!((((!x4)||(decide ((0:Int)<((x5.l.length:Nat):Int))))||(decide ((0:Int)<((x6.l.length:Nat):Int))))||(decide ((0:Int)<((x7.l.length:Nat):Int))))) (Z23_q a0 a1) (Sl.nil:Sl Z4) fun x8=>bif (((((!x4)||(decide ((0:Int)<((x5.l.length:Nat):Int))))||(decide ((0:Int)<((x6.l.length:Nat):Int))))||(decide ((0:Int)<((x7.l.length:Nat):Int))))||(decide ((0:Int)<((x8.l.length:Nat):Int)))) then((Z46).bind fun x11=>some x11) else(Option.bind (Z45_q31 a0 a1.FOps.l ) fun o31=>match o31 with|Sum.inl _=>(on (()) fun _=>Option.bind (Z45_q17 a0 a1.FFrags.l ) fun o17=>match o17 with|Sum.inl _=>(on (()) fun _=>(Z46).bind fun x15=>some x15)|Sum.inr e17=>(some e17))|Sum.inr e31=>(some e31))
theorem Z45_eq (a0:TDoc) (a1:Z9):Z45 a0 a1=Z45_q a0 a1:=by
 unfold Z45 Z45_q;refine Qs ?_;refine Q.bindO (Z47_eq _ _) fun x4=>?_;refine Q.guardOO (Z85_eq _ _) fun x5=>?_;refine Q.guardOO (Z11_eq _) fun x6=>?_;refine Q.guardOO (Z37_eq _ _) fun x7=>?_;refine Q.guardOO (Z23_eq _ _) fun x8=>?_;refine Q.condO ?_ ?_
 ·refine Q.bindO rfl fun x11=>?_;all_goals rfl
 refine Q.wrapOO fun Kb31 hKb31=>?_;refine Z45_l31_qe  Kb31 ?_ ?_ _ _ ⟨Nat.succ_pos _,by omega⟩
 ·intro n31 s5_32;refine Qe (hKb31 _) ?_;try dsimp only
  refine Q.wrapPO fun Kj12 hKj12=>?_;have hj12:Z45_j12 a0 a1 =Kj12 ():=by
   refine Qe (hKj12 _) ?_;unfold Z45_j12;refine Q.wrapOO fun Kb17 hKb17=>?_;refine Z45_l17_qe  Kb17 ?_ ?_ _ _ ⟨Nat.succ_pos _,by omega⟩
   ·intro n17 s6_18;refine Qe (hKb17 _) ?_;try dsimp only
    refine Q.wrapPO fun Kj13 hKj13=>?_;have hj13:Z45_j13  =Kj13 ():=by
     refine Qe (hKj13 _) ?_;unfold Z45_j13;refine Q.bindO rfl fun x15=>?_;all_goals rfl
    all_goals exact hj13
   intro e17;refine Qe (hKb17 _) ?_;try dsimp only
   all_goals rfl
  all_goals exact hj12
 intro e31;refine Qe (hKb31 _) ?_;try dsimp only
 all_goals rfl
end Go.Proofs

namespace Go.Proofs
open Go Go.Ab
theorem Z62_loop (a:TRef) (ha:a.FWraps.l.length<=1048576) (l:List Int) (i:Nat) (h:i+l.length=a.FWraps.l.length):Ok (Z62_q10 a l i):=by
 induction l generalizing i with
 | nil=>exact Tot.some _
 | cons x r ih =>
  simp only [List.length_cons] at h;have hr:=ih (i+1) (by omega);rw [Z62_q10];simp only [on];refine Tot.cond (fun _=>Tot.some _) fun _=>?_;by_cases hi:0<i
  ·have h1:decide ((0:Int)<((i:Nat):Int))=true:=by simpa using hi
   obtain⟨v,hv⟩:=idxC_ok (l:=a.FWraps.l) (n:=(i:Int)-1) (by omega);simp only [h1,cond_true,Bool.true_and,subC_ok (a:=(i:Int)) (b:=1) (by omega)];cases decide (x=1)<;>simp only [guardO,hv,if_true,Option.bind_some,Bool.false_eq_true,if_false,Bool.false_and,cond_false]
   ·exact hr
   ·(repeat' (first|exact Tot.some _|assumption|(with_reducible refine Tot.bind ?_ fun _ _=>?_)|(with_reducible refine Tot.guard (fun _=>?_) fun _ _ _=>?_)|(with_reducible refine Tot.cond (fun _=>?_) fun _=>?_)|(with_reducible refine Tot.on fun _ _=>?_)|split))
  ·have h1:decide ((0:Int)<((i:Nat):Int))=false:=by simpa using hi
   simp only [h1,Bool.false_and,guardO,Bool.false_eq_true,if_false,cond_false];exact hr
theorem Z62_ok (a:TRef) (ha:a.FWraps.l.length<=1048576):Ok (Z62_q a):=by
 unfold Z62_q
 (repeat' (first|exact Tot.some _|assumption|(with_reducible refine Tot.bind ?_ fun _ _=>?_)|(with_reducible refine Tot.guard (fun _=>?_) fun _ _ _=>?_)|(with_reducible refine Tot.cond (fun _=>?_) fun _=>?_)|(with_reducible refine Tot.on fun _ _=>?_)|split))
 exact Z62_loop a ha _ _ (by simp)
theorem Z55_loop (k:Z10->Option Int) (l:List Z10) (s:Int) (hk:∀x∈l,∃r,k x=some r/\1<=r/\r<=x.sz) (hs:0<=s) (hb:s+((l.map Z10.sz).sum:Nat)<=1152921504606846976):∃r,Z55_q7 k l s=some r/\s<=r/\r<=s+((l.map Z10.sz).sum:Nat):=by
 induction l generalizing s with
 | nil=>exact⟨s,rfl,by simp,by simp⟩
 | cons x r ih =>
  obtain⟨v,h1,h2,h3⟩:=hk x List.mem_cons_self;simp only [List.map_cons,List.sum_cons] at hb ⊢;rw [Z55_q7];simp only [on,h1,Option.bind_some];rw [addC_ok (by omega)];simp only [Option.bind_some];obtain⟨w,h4,h5,h6⟩:=ih (s+v) (fun y hy=>hk y (List.mem_cons_of_mem _ hy)) (by omega) (by omega);exact⟨w,h4,by omega,by omega⟩
theorem Z10.item_lt {v x:Z10}(h:x∈v.FItems.l):x.sz<v.sz:=by
 have h1:=v.sz_def; have h2:=Sl.mem_le (f:=Z10.sz) h; omega
theorem Z10.items_sum (v:Z10):2+(v.FItems.l.map Z10.sz).sum<=v.sz:=by
 have h1:=v.sz_def; have h2:Sl.sz Z10.sz v.FItems=1+(v.FItems.l.map Z10.sz).sum:=rfl; omega
theorem Z55_tot (n:Nat):∀v:Z10,v.sz<n->v.sz<=1073741824->∃r,Z55_qn n v=some r/\1<=r/\r<=v.sz:=by
 induction n with
 | zero=>intro v h; omega
 | succ n ih =>
  intro v h hb;have h0:=v.items_sum;obtain⟨w,h4,h5,h6⟩:=Z55_loop (Z55_qn n) v.FItems.l 1 (fun x hx=>by have:=Z10.item_lt hx; exact ih x (by omega) (by omega)) (by omega) (by omega);rw [Z55_qn,h4];exact⟨w,rfl,by omega,by omega⟩
theorem Z55_ok (v:Z10) (h:v.sz<=1048576):∃r,Z55_q v=some r/\1<=r/\r<=v.sz:=Z55_tot F0 v (by rw [F0_eq]; omega) (by omega)
theorem Z53_loop (k:Z10->Option Int) (l:List Z10) (s b:Int) (hk:∀x∈l,∃r,k x=some r/\1<=r/\r<=b) (hs:0<=s/\s<=b):∃r,Z53_q8 k l s=some r/\0<=r/\r<=b:=by
 induction l generalizing s with
 | nil=>exact⟨s,rfl,by omega,by omega⟩
 | cons x r ih =>
  obtain⟨v,h1,h2,h3⟩:=hk x List.mem_cons_self;rw [Z53_q8];simp only [on,h1,Option.bind_some];exact ih _ (fun y hy=>hk y (List.mem_cons_of_mem _ hy)) (by split<;>omega)
theorem Z53_tot (n:Nat):∀v:Z10,v.sz<n->v.sz<=1073741824->∃r,Z53_qn n v=some r/\1<=r/\r<=v.sz:=by
 induction n with
 | zero=>intro v h; omega
 | succ n ih =>
  intro v h hb;have h0:=v.items_sum;obtain⟨w,h4,h5,h6⟩:=Z53_loop (Z53_qn n) v.FItems.l 0 (v.sz-1:Nat) (fun x hx=>by have:=Z10.item_lt hx; obtain⟨r,h7,h8,h9⟩:=ih x (by omega) (by omega); exact⟨r,h7,h8,by omega⟩) (by omega);rw [Z53_qn,h4];simp only [on,Option.bind_some];rw [addC_ok (by omega)];exact⟨w+1,rfl,by omega,by omega⟩
theorem Z53_ok (v:Z10) (h:v.sz<=1048576):Ok (Z53_q v):=by
 obtain⟨r,hr,_⟩:=Z53_tot F0 v (by rw [F0_eq]; omega) (by omega); exact⟨r,hr⟩
theorem Z57_in (a:Sl Bs) (x:Bs) (m i:Nat) (h:i+m<=a.l.length):Ok (Z57_q13 a x m i):=by
 induction m generalizing i with
 | zero=>exact Tot.some _
 | succ m ih =>
  rw [Z57_q13]
  (repeat' (first|exact Tot.some _|assumption|(with_reducible refine Tot.bind ?_ fun _ _=>?_)|(with_reducible refine Tot.guard (fun _=>?_) fun _ _ _=>?_)|(with_reducible refine Tot.cond (fun _=>?_) fun _=>?_)|(with_reducible refine Tot.on fun _ _=>?_)|split))
  ·exact get_ok (by omega)
  ·exact ih _ (by omega)
theorem Z57_out (a:Sl Bs) (l:List Bs) (i:Nat) (h:i+l.length=a.l.length):Ok (Z57_q5 a l i):=by
 induction l generalizing i with
 | nil=>exact Tot.some _
 | cons x r ih =>
  simp only [List.length_cons] at h;rw [Z57_q5]
  (repeat' (first|exact Tot.some _|assumption|(with_reducible refine Tot.bind ?_ fun _ _=>?_)|(with_reducible refine Tot.guard (fun _=>?_) fun _ _ _=>?_)|(with_reducible refine Tot.cond (fun _=>?_) fun _=>?_)|(with_reducible refine Tot.on fun _ _=>?_)|split))
  ·exact Z57_in a x _ _ (by omega)
  ·exact ih _ (by omega)
theorem Z57_ok (a:Sl Bs):Ok (Z57_q a):=by
 unfold Z57_q
 (repeat' (first|exact Tot.some _|assumption|(with_reducible refine Tot.bind ?_ fun _ _=>?_)|(with_reducible refine Tot.guard (fun _=>?_) fun _ _ _=>?_)|(with_reducible refine Tot.cond (fun _=>?_) fun _=>?_)|(with_reducible refine Tot.on fun _ _=>?_)|split))
 exact Z57_out a _ _ (by simp)
theorem Z56_ok (v:Z10) (b:Bool):Ok (Z56_q v b):=by
 unfold Z56_q
 (repeat' (first|exact Tot.some _|assumption|(with_reducible refine Tot.bind ?_ fun _ _=>?_)|(with_reducible refine Tot.guard (fun _=>?_) fun _ _ _=>?_)|(with_reducible refine Tot.cond (fun _=>?_) fun _=>?_)|(with_reducible refine Tot.on fun _ _=>?_)|split))
 exact Z57_ok _
theorem Z58_loop (b:Bool) (k:Z10->Bool->Option Bool) (l:List Z10) (hk:∀x∈l,Ok (k x b)):Ok (Z58_q11 b k l):=by
 induction l with
 | nil=>exact Tot.some _
 | cons x r ih =>
  rw [Z58_q11]
  (repeat' (first|exact Tot.some _|assumption|(with_reducible refine Tot.bind ?_ fun _ _=>?_)|(with_reducible refine Tot.guard (fun _=>?_) fun _ _ _=>?_)|(with_reducible refine Tot.cond (fun _=>?_) fun _=>?_)|(with_reducible refine Tot.on fun _ _=>?_)|split))
  ·rename_i h; rw [h]; exact hk x List.mem_cons_self
  ·exact ih fun y hy=>hk y (List.mem_cons_of_mem _ hy)
theorem Z58_tot (n:Nat):∀(v:Z10) (b:Bool),v.sz<n->Ok (Z58_qn n v b):=by
 induction n with
 | zero=>intro v b h; omega
 | succ n ih =>
  intro v b h;rw [Z58_qn]
  (repeat' (first|exact Tot.some _|assumption|(with_reducible refine Tot.bind ?_ fun _ _=>?_)|(with_reducible refine Tot.guard (fun _=>?_) fun _ _ _=>?_)|(with_reducible refine Tot.cond (fun _=>?_) fun _=>?_)|(with_reducible refine Tot.on fun _ _=>?_)|split))
  ·exact Z56_ok _ _
  ·exact Z58_loop b _ _ fun x hx=>ih x b (by have:=Z10.item_lt hx; omega)
theorem Z54_ok (v:Z10) (h:v.sz<=1048576):Ok (Z54_q v):=by
 unfold Z54_q;obtain⟨r,hr,_⟩:=Z55_ok v h
 (repeat' (first|exact Tot.some _|assumption|(with_reducible refine Tot.bind ?_ fun _ _=>?_)|(with_reducible refine Tot.guard (fun _=>?_) fun _ _ _=>?_)|(with_reducible refine Tot.cond (fun _=>?_) fun _=>?_)|(with_reducible refine Tot.on fun _ _=>?_)|split))
 ·exact⟨r,hr⟩
 ·exact Z53_ok v h
 ·exact Z58_tot F0 v true (by rw [F0_eq]; omega)
theorem Z67_loop (k:Z10->Option Bool) (l:List Z10) (hk:∀x∈l,Ok (k x)):Ok (Z67_q5 k l):=by
 induction l with
 | nil=>exact Tot.some _
 | cons x r ih =>
  rw [Z67_q5]
  (repeat' (first|exact Tot.some _|assumption|(with_reducible refine Tot.bind ?_ fun _ _=>?_)|(with_reducible refine Tot.guard (fun _=>?_) fun _ _ _=>?_)|(with_reducible refine Tot.cond (fun _=>?_) fun _=>?_)|(with_reducible refine Tot.on fun _ _=>?_)|split))
  ·rename_i h; rw [h]; exact hk x List.mem_cons_self
  ·exact ih fun y hy=>hk y (List.mem_cons_of_mem _ hy)
theorem Z67_tot (n:Nat):∀(v:Z10),v.sz<n->Ok (Z67_qn n v):=by
 induction n with
 | zero=>intro v h; omega
 | succ n ih =>
  intro v h;rw [Z67_qn]
  (repeat' (first|exact Tot.some _|assumption|(with_reducible refine Tot.bind ?_ fun _ _=>?_)|(with_reducible refine Tot.guard (fun _=>?_) fun _ _ _=>?_)|(with_reducible refine Tot.cond (fun _=>?_) fun _=>?_)|(with_reducible refine Tot.on fun _ _=>?_)|split))
  exact Z67_loop _ _ fun x hx=>ih x (by have:=Z10.item_lt hx; omega)
theorem Z67_ok (v:Z10) (h:v.sz<=1048576):Ok (Z67_q v):=Z67_tot F0 v (by rw [F0_eq]; omega)
theorem TArg.value_le (a:TArg):a.FValue.sz<=a.sz:=by have:=a.sz_def; omega
theorem TDir.arg_le {x:TDir}{a:TArg}(h:a∈x.FArgs.l):a.sz<=x.sz:=by have:=x.sz_def; have:=Sl.mem_le (f:=TArg.sz) h; omega
theorem Z69_in (h10:TDir) (l:List TArg) (h:∀a∈l,a.sz<=1048576):Ok (Z69_q25 h10 l):=by
 induction l with
 | nil=>exact Tot.some _
 | cons x r ih =>
  have h1:=h x List.mem_cons_self; have h2:=x.value_le;rw [Z69_q25]
  (repeat' (first|exact Tot.some _|assumption|(with_reducible refine Tot.bind ?_ fun _ _=>?_)|(with_reducible refine Tot.guard (fun _=>?_) fun _ _ _=>?_)|(with_reducible refine Tot.cond (fun _=>?_) fun _=>?_)|(with_reducible refine Tot.on fun _ _=>?_)|split))
  all_goals first|exact ih fun y hy=>h y (List.mem_cons_of_mem _ hy)|(subst_vars; first|exact Z54_ok _ (by omega)|exact Z67_ok _ (by omega))
theorem Z69_loop (l:List TDir) (h:∀a∈l,a.sz<=1048576):Ok (Z69_q10 l):=by
 induction l with
 | nil=>exact Tot.some _
 | cons x r ih =>
  have h1:=h x List.mem_cons_self;rw [Z69_q10]
  (repeat' (first|exact Tot.some _|assumption|(with_reducible refine Tot.bind ?_ fun _ _=>?_)|(with_reducible refine Tot.guard (fun _=>?_) fun _ _ _=>?_)|(with_reducible refine Tot.cond (fun _=>?_) fun _=>?_)|(with_reducible refine Tot.on fun _ _=>?_)|split))
  ·exact Z69_in x _ fun a ha=>by have:=TDir.arg_le ha; omega
  ·exact ih fun y hy=>h y (List.mem_cons_of_mem _ hy)
theorem Z69_ok (s:Sl TDir) (h:Sl.sz TDir.sz s<=1048576):Ok (Z69_q s):=by
 unfold Z69_q
 (repeat' (first|exact Tot.some _|assumption|(with_reducible refine Tot.bind ?_ fun _ _=>?_)|(with_reducible refine Tot.guard (fun _=>?_) fun _ _ _=>?_)|(with_reducible refine Tot.cond (fun _=>?_) fun _=>?_)|(with_reducible refine Tot.on fun _ _=>?_)|split))
 exact Z69_loop _ fun a ha=>by have:=Sl.mem_le (f:=TDir.sz) ha; omega
theorem TRef.wraps_le (r:TRef):r.FWraps.l.length<=r.sz:=by have:=r.sz_def; have:=Sl.len_le (f:=fun _:Int=>1) r.FWraps (fun _=>Nat.le_refl _); omega
theorem Z71_loop (l:List Z7) (h:∀a∈l,a.sz<=1048576):Ok (Z71_q10 l):=by
 induction l with
 | nil=>exact Tot.some _
 | cons x r ih =>
  have h1:=h x List.mem_cons_self; have h2:=x.sz_def; have h3:=x.FType.wraps_le;rw [Z71_q10]
  (repeat' (first|exact Tot.some _|assumption|(with_reducible refine Tot.bind ?_ fun _ _=>?_)|(with_reducible refine Tot.guard (fun _=>?_) fun _ _ _=>?_)|(with_reducible refine Tot.cond (fun _=>?_) fun _=>?_)|(with_reducible refine Tot.on fun _ _=>?_)|split))
  all_goals first|exact ih fun y hy=>h y (List.mem_cons_of_mem _ hy)|(subst_vars; first|exact Z62_ok _ (by omega)|exact Z69_ok _ (by omega)|exact Z54_ok _ (by omega)|exact Z67_ok _ (by omega))
theorem Z71_ok (s:Sl Z7) (h:Sl.sz Z7.sz s<=1048576):Ok (Z71_q s):=by
 unfold Z71_q
 (repeat' (first|exact Tot.some _|assumption|(with_reducible refine Tot.bind ?_ fun _ _=>?_)|(with_reducible refine Tot.guard (fun _=>?_) fun _ _ _=>?_)|(with_reducible refine Tot.cond (fun _=>?_) fun _=>?_)|(with_reducible refine Tot.on fun _ _=>?_)|split))
 exact Z71_loop _ fun a ha=>by have:=Sl.mem_le (f:=Z7.sz) ha; omega
theorem Z70_loop (l:List Z5) (h:∀a∈l,a.sz<=1048576):Ok (Z70_q10 l):=by
 induction l with
 | nil=>exact Tot.some _
 | cons x r ih =>
  have h1:=h x List.mem_cons_self; have h2:=x.sz_def; have h3:=x.FType.wraps_le;have hz:Z5.zero.FType.FWraps.l.length<=1048576:=by decide
  rw [Z70_q10];simp only [on];cases Z50_q x.FName<;>simp only [Bool.not_true,Bool.not_false,cond_true,cond_false,Bool.or_false,Bool.or_true,Bool.true_or,Bool.false_or]
  ·simp [guardO]; exact Tot.some _
  ·obtain⟨b1,e1⟩:=Z71_ok x.FArgs (by omega);obtain⟨b2,e2⟩:=Z62_ok x.FType (by omega);obtain⟨b3,e3⟩:=Z69_ok x.FDirs (by omega);have hr:=ih fun y hy=>h y (List.mem_cons_of_mem _ hy);cases b1<;>cases b2<;>cases b3<;>simp [guardO,e1,e2,e3]<;>first|exact Tot.some _|exact hr
theorem Z70_ok (s:Sl Z5) (h:Sl.sz Z5.sz s<=1048576):Ok (Z70_q s):=by
 unfold Z70_q
 (repeat' (first|exact Tot.some _|assumption|(with_reducible refine Tot.bind ?_ fun _ _=>?_)|(with_reducible refine Tot.guard (fun _=>?_) fun _ _ _=>?_)|(with_reducible refine Tot.cond (fun _=>?_) fun _=>?_)|(with_reducible refine Tot.on fun _ _=>?_)|split))
 exact Z70_loop _ fun a ha=>by have:=Sl.mem_le (f:=Z5.sz) ha; omega
theorem Z72_loop (b:Bool) (l:List Z8) (h:∀a∈l,a.sz<=1048576):Ok (Z72_q10 b l):=by
 induction l with
 | nil=>exact Tot.some _
 | cons x r ih =>
  have h1:=h x List.mem_cons_self; have h2:=x.sz_def;rw [Z72_q10];simp only [on];cases Z50_q x.FName<;>simp only [Bool.not_true,Bool.not_false,cond_true,cond_false,Bool.or_false,Bool.or_true,Bool.true_or,Bool.false_or]
  ·simp [guardO]; exact Tot.some _
  ·obtain⟨b3,e3⟩:=Z69_ok x.FDirs (by omega);have hr:=ih fun y hy=>h y (List.mem_cons_of_mem _ hy);simp only [guardO,e3,if_true,Option.bind_some]
   (repeat' (first|exact Tot.some _|assumption|(with_reducible refine Tot.bind ?_ fun _ _=>?_)|(with_reducible refine Tot.guard (fun _=>?_) fun _ _ _=>?_)|(with_reducible refine Tot.cond (fun _=>?_) fun _=>?_)|(with_reducible refine Tot.on fun _ _=>?_)|split))
theorem Z72_ok (s:Sl Z8) (b:Bool) (h:Sl.sz Z8.sz s<=1048576):Ok (Z72_q s b):=by
 unfold Z72_q
 (repeat' (first|exact Tot.some _|assumption|(with_reducible refine Tot.bind ?_ fun _ _=>?_)|(with_reducible refine Tot.guard (fun _=>?_) fun _ _ _=>?_)|(with_reducible refine Tot.cond (fun _=>?_) fun _=>?_)|(with_reducible refine Tot.on fun _ _=>?_)|split))
 exact Z72_loop _ _ fun a ha=>by have:=Sl.mem_le (f:=Z8.sz) ha; omega
theorem Z68_ok (x:TDef) (h:x.sz<=1048576):Ok (Z68_q x):=by
 have h2:=x.sz_def;unfold Z68_q
 (repeat' (first|exact Tot.some _|assumption|(with_reducible refine Tot.bind ?_ fun _ _=>?_)|(with_reducible refine Tot.guard (fun _=>?_) fun _ _ _=>?_)|(with_reducible refine Tot.cond (fun _=>?_) fun _=>?_)|(with_reducible refine Tot.on fun _ _=>?_)|split))
 all_goals first|exact Z69_ok _ (by omega)|exact Z70_ok _ (by omega)|exact Z72_ok _ _ (by omega)|exact Z71_ok _ (by omega)
theorem Z66_loop (l:List TDef) (h:∀a∈l,a.sz<=1048576):Ok (Z66_q10 l):=by
 induction l with
 | nil=>exact Tot.some _
 | cons x r ih =>
  rw [Z66_q10]
  (repeat' (first|exact Tot.some _|assumption|(with_reducible refine Tot.bind ?_ fun _ _=>?_)|(with_reducible refine Tot.guard (fun _=>?_) fun _ _ _=>?_)|(with_reducible refine Tot.cond (fun _=>?_) fun _=>?_)|(with_reducible refine Tot.on fun _ _=>?_)|split))
  ·subst_vars; exact Z68_ok _ (h _ List.mem_cons_self)
  ·exact ih fun y hy=>h y (List.mem_cons_of_mem _ hy)
theorem TDoc.def_le {d:TDoc}{x:TDef}(h:x∈d.FDefs.l):x.sz<=d.sz:=by have:=d.sz_def; have:=Sl.mem_le (f:=TDef.sz) h; omega
theorem Z66_ok (d:TDoc) (h:d.sz<=1048576):Ok (Z66_q d):=by
 unfold Z66_q
 (repeat' (first|exact Tot.some _|assumption|(with_reducible refine Tot.bind ?_ fun _ _=>?_)|(with_reducible refine Tot.guard (fun _=>?_) fun _ _ _=>?_)|(with_reducible refine Tot.cond (fun _=>?_) fun _=>?_)|(with_reducible refine Tot.on fun _ _=>?_)|split))
 exact Z66_loop _ fun a ha=>by have:=TDoc.def_le ha; omega
end Go.Proofs

namespace Go.Proofs
open Go Go.Ab
theorem Z77_loop (k:Z10->Option Bool) (l:List Z10) (hk:∀x∈l,Ok (k x)):Ok (Z77_q5 k l):=by
 induction l with
 | nil=>exact Tot.some _
 | cons x r ih =>
  rw [Z77_q5]
  (repeat' (first|exact Tot.some _|assumption|(with_reducible refine Tot.bind ?_ fun _ _=>?_)|(with_reducible refine Tot.guard (fun _=>?_) fun _ _ _=>?_)|(with_reducible refine Tot.cond (fun _=>?_) fun _=>?_)|(with_reducible refine Tot.on fun _ _=>?_)|split))
  ·rename_i h; rw [h]; exact hk x List.mem_cons_self
  ·exact ih fun y hy=>hk y (List.mem_cons_of_mem _ hy)
theorem Z77_tot (n:Nat):∀(v:Z10),v.sz<n->Ok (Z77_qn n v):=by
 induction n with
 | zero=>intro v h; omega
 | succ n ih =>
  intro v h;rw [Z77_qn]
  (repeat' (first|exact Tot.some _|assumption|(with_reducible refine Tot.bind ?_ fun _ _=>?_)|(with_reducible refine Tot.guard (fun _=>?_) fun _ _ _=>?_)|(with_reducible refine Tot.cond (fun _=>?_) fun _=>?_)|(with_reducible refine Tot.on fun _ _=>?_)|split))
  exact Z77_loop _ _ fun x hx=>ih x (by have:=Z10.item_lt hx; omega)
theorem Z77_ok (v:Z10) (h:v.sz<=1048576):Ok (Z77_q v):=Z77_tot F0 v (by rw [F0_eq]; omega)
theorem Z81_loop (l:List TVar) (h:∀a∈l,a.sz<=1048576):Ok (Z81_q6 l):=by
 induction l with
 | nil=>exact Tot.some _
 | cons x r ih =>
  have h1:=h x List.mem_cons_self; have h2:=x.sz_def; have h3:=x.FType.wraps_le;have hr:=ih fun y hy=>h y (List.mem_cons_of_mem _ hy);rw [Z81_q6]
  (repeat' (first|exact Tot.some _|assumption|(with_reducible refine Tot.bind ?_ fun _ _=>?_)|(with_reducible refine Tot.guard (fun _=>?_) fun _ _ _=>?_)|(with_reducible refine Tot.cond (fun _=>?_) fun _=>?_)|(with_reducible refine Tot.on fun _ _=>?_)|split))
  all_goals (subst_vars; first|exact Z62_ok _ (by omega)|exact Z54_ok _ (by omega)|exact Z77_ok _ (by omega))
theorem Z81_ok (s:Sl TVar) (h:Sl.sz TVar.sz s<=1048576):Ok (Z81_q s):=by
 unfold Z81_q
 (repeat' (first|exact Tot.some _|assumption|(with_reducible refine Tot.bind ?_ fun _ _=>?_)|(with_reducible refine Tot.guard (fun _=>?_) fun _ _ _=>?_)|(with_reducible refine Tot.cond (fun _=>?_) fun _=>?_)|(with_reducible refine Tot.on fun _ _=>?_)|split))
 exact Z81_loop _ fun a ha=>by have:=Sl.mem_le (f:=TVar.sz) ha; omega
theorem Z76_loop (l:List TArg) (h:∀a∈l,a.sz<=1048576):Ok (Z76_q6 l):=by
 induction l with
 | nil=>exact Tot.some _
 | cons x r ih =>
  have h1:=h x List.mem_cons_self; have h2:=x.value_le;have hr:=ih fun y hy=>h y (List.mem_cons_of_mem _ hy);obtain⟨b,e⟩:=Z54_ok x.FValue (by omega);rw [Z76_q6];simp only [on];cases Z50_q x.FName<;>simp only [guardO,e,Bool.not_true,Bool.not_false,cond_true,cond_false,Bool.or_false,Bool.or_true,Bool.true_or,Bool.false_or,if_true,Bool.false_eq_true,if_false,Option.bind_some]
  ·exact Tot.some _
  ·(repeat' (first|exact Tot.some _|assumption|(with_reducible refine Tot.bind ?_ fun _ _=>?_)|(with_reducible refine Tot.guard (fun _=>?_) fun _ _ _=>?_)|(with_reducible refine Tot.cond (fun _=>?_) fun _=>?_)|(with_reducible refine Tot.on fun _ _=>?_)|split))
theorem Z76_ok (s:Sl TArg) (h:Sl.sz TArg.sz s<=1048576):Ok (Z76_q s):=by
 unfold Z76_q
 (repeat' (first|exact Tot.some _|assumption|(with_reducible refine Tot.bind ?_ fun _ _=>?_)|(with_reducible refine Tot.guard (fun _=>?_) fun _ _ _=>?_)|(with_reducible refine Tot.cond (fun _=>?_) fun _=>?_)|(with_reducible refine Tot.on fun _ _=>?_)|split))
 exact Z76_loop _ fun a ha=>by have:=Sl.mem_le (f:=TArg.sz) ha; omega
theorem Z78_loop (l:List TDir) (h:∀a∈l,a.sz<=1048576):Ok (Z78_q6 l):=by
 induction l with
 | nil=>exact Tot.some _
 | cons x r ih =>
  have h1:=h x List.mem_cons_self; have h2:=x.sz_def;have hr:=ih fun y hy=>h y (List.mem_cons_of_mem _ hy);obtain⟨b,e⟩:=Z76_ok x.FArgs (by omega);rw [Z78_q6];simp only [on];cases Z50_q x.FName<;>simp only [guardO,e,Bool.not_true,Bool.not_false,cond_true,cond_false,Bool.or_false,Bool.or_true,Bool.true_or,Bool.false_or,if_true,Bool.false_eq_true,if_false,Option.bind_some]
  ·exact Tot.some _
  ·(repeat' (first|exact Tot.some _|assumption|(with_reducible refine Tot.bind ?_ fun _ _=>?_)|(with_reducible refine Tot.guard (fun _=>?_) fun _ _ _=>?_)|(with_reducible refine Tot.cond (fun _=>?_) fun _=>?_)|(with_reducible refine Tot.on fun _ _=>?_)|split))
theorem Z78_ok (s:Sl TDir) (h:Sl.sz TDir.sz s<=1048576):Ok (Z78_q s):=by
 unfold Z78_q
 (repeat' (first|exact Tot.some _|assumption|(with_reducible refine Tot.bind ?_ fun _ _=>?_)|(with_reducible refine Tot.guard (fun _=>?_) fun _ _ _=>?_)|(with_reducible refine Tot.cond (fun _=>?_) fun _=>?_)|(with_reducible refine Tot.on fun _ _=>?_)|split))
 exact Z78_loop _ fun a ha=>by have:=Sl.mem_le (f:=TDir.sz) ha; omega
theorem r08_sels_loop (i:Int) (k:TSel->Int->Option Bool) (l:List TSel) (hk:∀x∈l,Ok (k x i)):Ok (r08_selsRight_q10 i k l):=by
 induction l with
 | nil=>exact Tot.some _
 | cons x r ih =>
  have hr:=ih fun y hy=>hk y (List.mem_cons_of_mem _ hy);rw [r08_selsRight_q10]
  (repeat' (first|exact Tot.some _|assumption|(with_reducible refine Tot.bind ?_ fun _ _=>?_)|(with_reducible refine Tot.guard (fun _=>?_) fun _ _ _=>?_)|(with_reducible refine Tot.cond (fun _=>?_) fun _=>?_)|(with_reducible refine Tot.on fun _ _=>?_)|split))
  rename_i h; rw [h]; exact hk x List.mem_cons_self
theorem TSel.sub_lt (s:TSel):Sl.sz TSel.sz s.FSels<s.sz:=by
 have h1:=s.sz_def; have:=Bs.sz_pos s.FAlias; omega
theorem r08_sels_tot (n:Nat):(∀(s:Sl TSel) (i:Int),Sl.sz TSel.sz s<=1048576->2*Sl.sz TSel.sz s<n->0<=i->i<=25->Ok (r08_selsRight_qn n s i))/\(∀(s:TSel) (i:Int),s.sz<=1048576->2*s.sz<n->0<=i->i<=24->Ok (Z79_qn n s i)):=by
 induction n with
 | zero=>exact⟨fun s i _ h=>by omega,fun s i _ h=>by omega⟩
 | succ n ih =>
  refine⟨fun s i hs h h0 h1=>?_,fun s i hs h h0 h1=>?_⟩
  ·rw [r08_selsRight_qn];refine Tot.cond (fun _=>Tot.some _) fun hc=>?_;simp only [Bool.or_eq_false_iff,decide_eq_false_iff_not] at hc
   (repeat' (first|exact Tot.some _|assumption|(with_reducible refine Tot.bind ?_ fun _ _=>?_)|(with_reducible refine Tot.guard (fun _=>?_) fun _ _ _=>?_)|(with_reducible refine Tot.cond (fun _=>?_) fun _=>?_)|(with_reducible refine Tot.on fun _ _=>?_)|split))
   exact r08_sels_loop _ _ _ fun x hx=>ih.2 x i (by have:=Sl.mem_le (f:=TSel.sz) hx; omega) (by have:=Sl.mem_le (f:=TSel.sz) hx; omega) h0 (by omega)
  ·have h2:=s.sz_def;have h3:=s.sub_lt;obtain⟨b1,e1⟩:=Z78_ok s.FDirs (by omega);obtain⟨b2,e2⟩:=Z76_ok s.FArgs (by omega);obtain⟨b3,e3⟩:=ih.1 s.FSels (i+1) (by omega) (by omega) (by omega) (by omega);rw [Z79_qn]
   (repeat' (first|exact Tot.some _|assumption|(with_reducible refine Tot.bind ?_ fun _ _=>?_)|(with_reducible refine Tot.guard (fun _=>?_) fun _ _ _=>?_)|(with_reducible refine Tot.cond (fun _=>?_) fun _=>?_)|(with_reducible refine Tot.on fun _ _=>?_)|split))
   all_goals first
    | exact⟨_,e1⟩|exact⟨_,e2⟩|exact⟨_,e3⟩
    | (rw [addC_ok (by omega)]; exact Tot.some _)
    | (rename_i hg _ hv _; have h9:=hv hg; rw [addC_ok (by omega)] at h9; obtain rfl:=Option.some.inj h9; exact⟨_,e3⟩)
    | (rename_i hv; rw [addC_ok (by omega)] at hv; obtain rfl:=Option.some.inj hv; exact⟨_,e3⟩)
    | (rename_i hv _ hg; have h9:=hv hg; rw [addC_ok (by omega)] at h9; obtain rfl:=Option.some.inj h9; exact⟨_,e3⟩)
    | (rename_i hv _ _ hg; have h9:=hv hg; rw [addC_ok (by omega)] at h9; obtain rfl:=Option.some.inj h9; exact⟨_,e3⟩)
theorem r08_selsRight_ok (s:Sl TSel) (h:Sl.sz TSel.sz s<=1048576):Ok (r08_selsRight_q s 1):=(r08_sels_tot F0).1 s 1 h (by rw [F0_eq]; omega) (by omega) (by omega)
theorem Z75_ops (l:List TOp) (h:∀a∈l,a.sz<=1048576):Ok (Z75_q30 l):=by
 induction l with
 | nil=>exact Tot.some _
 | cons x r ih =>
  have h1:=h x List.mem_cons_self; have h2:=x.sz_def;have hr:=ih fun y hy=>h y (List.mem_cons_of_mem _ hy);rw [Z75_q30]
  (repeat' (first|exact Tot.some _|assumption|(with_reducible refine Tot.bind ?_ fun _ _=>?_)|(with_reducible refine Tot.guard (fun _=>?_) fun _ _ _=>?_)|(with_reducible refine Tot.cond (fun _=>?_) fun _=>?_)|(with_reducible refine Tot.on fun _ _=>?_)|split))
  all_goals (subst_vars; first|exact Z81_ok _ (by omega)|exact r08_selsRight_ok _ (by omega))
theorem Z75_frags (l:List Z6) (h:∀a∈l,a.sz<=1048576):Ok (Z75_q14 l):=by
 induction l with
 | nil=>exact Tot.some _
 | cons x r ih =>
  have h1:=h x List.mem_cons_self; have h2:=x.sz_def;have hr:=ih fun y hy=>h y (List.mem_cons_of_mem _ hy);rw [Z75_q14]
  (repeat' (first|exact Tot.some _|assumption|(with_reducible refine Tot.bind ?_ fun _ _=>?_)|(with_reducible refine Tot.guard (fun _=>?_) fun _ _ _=>?_)|(with_reducible refine Tot.cond (fun _=>?_) fun _=>?_)|(with_reducible refine Tot.on fun _ _=>?_)|split))
  all_goals (subst_vars; first|exact r08_selsRight_ok _ (by omega))
theorem Z9.op_le {d:Z9}{x:TOp}(h:x∈d.FOps.l):x.sz<=d.sz:=by have:=d.sz_def; have:=Sl.mem_le (f:=TOp.sz) h; omega
theorem Z9.frag_le {d:Z9}{x:Z6}(h:x∈d.FFrags.l):x.sz<=d.sz:=by have:=d.sz_def; have:=Sl.mem_le (f:=Z6.sz) h; omega
theorem Z9.lens (d:Z9):d.FOps.l.length<=d.sz/\d.FFrags.l.length<=d.sz:=by
 have h1:=d.sz_def; have h2:=Sl.len_lt (f:=TOp.sz) d.FOps TOp.pos; have h3:=Sl.len_lt (f:=Z6.sz) d.FFrags Z6.pos; omega
theorem Z75_ok (q:Z9) (h:q.sz<=1048576):Ok (Z75_q q):=by
 have hl:=q.lens;unfold Z75_q;rw [addC_ok (by omega)]
 (repeat' (first|exact Tot.some _|assumption|(with_reducible refine Tot.bind ?_ fun _ _=>?_)|(with_reducible refine Tot.guard (fun _=>?_) fun _ _ _=>?_)|(with_reducible refine Tot.cond (fun _=>?_) fun _=>?_)|(with_reducible refine Tot.on fun _ _=>?_)|split))
 ·exact Z75_ops _ fun a ha=>by have:=Z9.op_le ha; omega
 ·exact Z75_frags _ fun a ha=>by have:=Z9.frag_le ha; omega
theorem Z82_args (m:Int) (h7:TSel) (l:List TArg) (s:Int) (hs:0<=s) (hb:s+((l.map TArg.sz).sum:Nat)<=1152921504606846976) (ha:∀a∈l,a.sz<=1048576):∃r,Z82_q29 m h7 l s=some r/\s<=r/\r+(l.length:Nat)<=s+((l.map TArg.sz).sum:Nat):=by
 induction l generalizing s with
 | nil=>exact⟨s,rfl,by simp,by simp⟩
 | cons x r ih =>
  have h1:=ha x List.mem_cons_self; have h2:=x.sz_def; have hp:=Bs.sz_pos x.FName;obtain⟨v,h3,h4,h5⟩:=Z55_ok x.FValue (by omega);have hr:r.length<=(r.map TArg.sz).sum:=by
   have:=Sl.len_le (f:=TArg.sz) ⟨false,r⟩ TArg.pos;have h9:=Sl.len_lt (f:=TArg.sz) ⟨false,r⟩ TArg.pos;have h8:Sl.sz TArg.sz ⟨false,r⟩=1+(r.map TArg.sz).sum:=rfl;simp only at h9; omega
  simp only [List.map_cons,List.sum_cons,List.length_cons] at hb ⊢;rw [Z82_q29];cases decide (s<=m) with
  | false=>exact⟨s,rfl,by omega,by omega⟩
  | true =>
   simp only [on,cond_true,h3,Option.bind_some];rw [addC_ok (by omega)];simp only [Option.bind_some];obtain⟨w,h6,h7,h8⟩:=ih (s+v) (by omega) (by omega) (fun y hy=>ha y (List.mem_cons_of_mem _ hy));exact⟨w,h6,by omega,by omega⟩
theorem Z82_loop (m:Int) (k:Sl TSel->Int->Option Int) (l:List TSel) (s:Int) (hm : -2305843009213693952<=m/\m<=1152921504606846976) (hs:0<=s) (hb:s+((l.map TSel.sz).sum:Nat)<=1048576) (hk:∀x∈l,∀m',m-1048576<=m'->m'<=m->∃r,k x.FSels m'=some r/\0<=r/\r<=(Sl.sz TSel.sz x.FSels:Nat)):∃r,Z82_q7 m k l s=some r/\s<=r/\r<=s+((l.map TSel.sz).sum:Nat):=by
 induction l generalizing s with
 | nil=>exact⟨s,rfl,by simp,by simp⟩
 | cons x r ih =>
  have h2:=x.sz_def;have h3:=Sl.len_lt (f:=TArg.sz) x.FArgs TArg.pos; have h4:=Sl.len_lt (f:=TDir.sz) x.FDirs TDir.pos;have h5:Sl.sz TArg.sz x.FArgs=1+(x.FArgs.l.map TArg.sz).sum:=rfl;have h0:=Bs.sz_pos x.FName; have h01:=Bs.sz_pos x.FAlias; have h02:=Bs.sz_pos x.FOn;have h6:x.FArgs.l.length<=2*(x.FArgs.l.map TArg.sz).sum:=by omega
  simp only [List.map_cons,List.sum_cons] at hb ⊢;rw [Z82_q7];cases decide (s<=m) with
  | false=>exact⟨s,rfl,by omega,by omega⟩
  | true =>
   simp only [on,cond_true];iterate 3 (rw [addC_ok (by omega)]; simp only [Option.bind_some])
   obtain⟨w,e1,e2,e3⟩:=Z82_args m x x.FArgs.l (s+1+(x.FArgs.l.length:Nat)+(x.FDirs.l.length:Nat)) (by omega) (by omega) (fun a haa=>by have:=Sl.mem_le (f:=TArg.sz) haa; omega);simp only [e1,Option.bind_some];rw [subC_ok (by omega)];simp only [Option.bind_some];obtain⟨y,e4,e5,e6⟩:=hk x List.mem_cons_self (m-w) (by omega) (by omega);simp only [e4,Option.bind_some];rw [addC_ok (by omega)];simp only [Option.bind_some]
   obtain⟨z,e7,e8,e9⟩:=ih (w+y) (by omega) (by omega) (fun y hy=>hk y (List.mem_cons_of_mem _ hy));exact⟨z,e7,by omega,by omega⟩
theorem Z82_tot (n:Nat):∀(l:Sl TSel) (m:Int),Sl.sz TSel.sz l<n->Sl.sz TSel.sz l<=1048576 -> -2199023255552+(Sl.sz TSel.sz l:Nat)*1048576<=m->m<=1152921504606846976->∃r,Z82_qn n l m=some r/\0<=r/\r<=(Sl.sz TSel.sz l:Nat):=by
 induction n with
 | zero=>intro l m h; omega
 | succ n ih =>
  intro l m h1 h2 h3 h4;have h5:Sl.sz TSel.sz l=1+(l.l.map TSel.sz).sum:=rfl;obtain⟨r,e1,e2,e3⟩:=Z82_loop m (Z82_qn n) l.l 0 ⟨by omega,h4⟩ (by omega) (by omega) (fun x hx m' h6 h7=>by
   have h8:=Sl.mem_le (f:=TSel.sz) hx; have h9:=x.sub_lt;exact ih _ _ (by omega) (by omega) (by omega) (by omega))
  rw [Z82_qn,e1];exact⟨r,rfl,by omega,by omega⟩
theorem Z82_ok (l:Sl TSel) (h:Sl.sz TSel.sz l<=1048576):∃r,Z82_q l 600=some r/\0<=r/\r<=(Sl.sz TSel.sz l:Nat):=Z82_tot F0 l 600 (by rw [F0_eq]; omega) h (by omega) (by omega)
theorem Z74_ops (l:List TOp) (s:Int) (hs:0<=s) (hb:s+((l.map TOp.sz).sum:Nat)<=1073741824) (ha:∀a∈l,a.sz<=1048576):∃r,Z74_q24 l s=some r/\0<=r/\r<=s+((l.map TOp.sz).sum:Nat):=by
 induction l generalizing s with
 | nil=>exact⟨s,rfl,by omega,by simp⟩
 | cons x r ih =>
  have h1:=ha x List.mem_cons_self; have h2:=x.sz_def;have h3:=Sl.len_lt (f:=TVar.sz) x.FVars TVar.pos;simp only [List.map_cons,List.sum_cons] at hb ⊢;rw [Z74_q24];cases decide (s<=600) with
  | false=>exact⟨s,rfl,by omega,by omega⟩
  | true =>
   simp only [on,cond_true];rw [addC_ok (by omega)];obtain⟨w,e1,e2,e3⟩:=Z82_ok x.FSels (by omega);simp only [Option.bind_some,e1];rw [addC_ok (by omega)];simp only [Option.bind_some];obtain⟨z,e7,e8,e9⟩:=ih (s+(x.FVars.l.length:Nat)+w) (by omega) (by omega) (fun y hy=>ha y (List.mem_cons_of_mem _ hy));exact⟨z,e7,by omega,by omega⟩
theorem Z74_frags (l:List Z6) (s:Int) (hs:0<=s) (hb:s+((l.map Z6.sz).sum:Nat)<=2147483648) (ha:∀a∈l,a.sz<=1048576):∃r,Z74_q12 l s=some r/\0<=r/\r<=s+((l.map Z6.sz).sum:Nat):=by
 induction l generalizing s with
 | nil=>exact⟨s,rfl,by omega,by simp⟩
 | cons x r ih =>
  have h1:=ha x List.mem_cons_self; have h2:=x.sz_def;simp only [List.map_cons,List.sum_cons] at hb ⊢;rw [Z74_q12];cases decide (s<=600) with
  | false=>exact⟨s,rfl,by omega,by omega⟩
  | true =>
   simp only [on,cond_true];obtain⟨w,e1,e2,e3⟩:=Z82_ok x.FSels (by omega);simp only [Option.bind_some,e1];rw [addC_ok (by omega)];simp only [Option.bind_some];obtain⟨z,e7,e8,e9⟩:=ih (s+w) (by omega) (by omega) (fun y hy=>ha y (List.mem_cons_of_mem _ hy));exact⟨z,e7,by omega,by omega⟩
theorem Z74_ok (q:Z9) (h:q.sz<=1048576):Ok (Z74_q q):=by
 have hl:=q.lens; have hd:=q.sz_def;have h1:Sl.sz TOp.sz q.FOps=1+(q.FOps.l.map TOp.sz).sum:=rfl;have h2:Sl.sz Z6.sz q.FFrags=1+(q.FFrags.l.map Z6.sz).sum:=rfl;unfold Z74_q;rw [addC_ok (by omega)];obtain⟨r,e1,e2,e3⟩:=Z74_ops q.FOps.l ((q.FOps.l.length:Nat)+(q.FFrags.l.length:Nat)) (by omega) (by omega) fun a ha=>by have:=Z9.op_le ha; omega
 simp only [Option.bind_some,e1,on];obtain⟨w,e4,e5,e6⟩:=Z74_frags q.FFrags.l r (by omega) (by omega) fun a ha=>by have:=Z9.frag_le ha; omega
 simp only [Option.bind_some,e4];exact Tot.some _
theorem Z84_in (l:List Z5) (s:Int) (hs:0<=s) (hb:s+((l.map Z5.sz).sum:Nat)<=1152921504606846976) (ha:∀a∈l,a.sz<=1048576):∃r,Z84_q36 l s=some r/\0<=r/\r<=s+((l.map Z5.sz).sum:Nat):=by
 induction l generalizing s with
 | nil=>exact⟨s,rfl,by omega,by simp⟩
 | cons x r ih =>
  have h1:=ha x List.mem_cons_self; have h2:=x.sz_def;have h3:=Sl.len_lt (f:=Z7.sz) x.FArgs Z7.pos; have h4:=Sl.len_lt (f:=TDir.sz) x.FDirs TDir.pos;simp only [List.map_cons,List.sum_cons] at hb ⊢;rw [Z84_q36];simp only [on];rw [addC_ok (by omega)]; simp only [Option.bind_some];rw [addC_ok (by omega)]; simp only [Option.bind_some];obtain⟨z,e7,e8,e9⟩:=ih (s+((x.FArgs.l.length:Nat)+(x.FDirs.l.length:Nat))) (by omega) (by omega) (fun y hy=>ha y (List.mem_cons_of_mem _ hy))
  exact⟨z,e7,by omega,by omega⟩
theorem Z84_out (l:List TDef) (s:Int) (hs:0<=s) (hb:s+2*((l.map TDef.sz).sum:Nat)<=1152921504606846976) (ha:∀a∈l,a.sz<=1048576):∃r,Z84_q12 l s=some r:=by
 induction l generalizing s with
 | nil=>exact⟨s,rfl⟩
 | cons x r ih =>
  have h1:=ha x List.mem_cons_self; have h2:=x.sz_def;have h3:=Sl.len_lt (f:=Z5.sz) x.FFields Z5.pos; have h4:=Sl.len_lt (f:=TDir.sz) x.FDirs TDir.pos; have h5:=Sl.len_lt (f:=Z8.sz) x.FMembers Z8.pos;have h6:=Sl.len_lt (f:=Z7.sz) x.FInputs Z7.pos; have h7:=Sl.len_lt (f:=Bs.sz) x.FImplements Bs.sz_pos;have h8:Sl.sz Z5.sz x.FFields=1+(x.FFields.l.map Z5.sz).sum:=rfl;simp only [List.map_cons,List.sum_cons] at hb
  rw [Z84_q12];simp only [on];iterate 6 (rw [addC_ok (by omega)]; simp only [Option.bind_some])
  obtain⟨z,e1,e2,e3⟩:=Z84_in x.FFields.l (s+(1+(x.FFields.l.length:Nat)+(x.FMembers.l.length:Nat)+(x.FInputs.l.length:Nat)+(x.FDirs.l.length:Nat)+(x.FImplements.l.length:Nat))) (by omega) (by omega) (fun a haa=>by have:=Sl.mem_le (f:=Z5.sz) haa; omega);simp only [e1,Option.bind_some];exact ih z e2 (by omega) (fun y hy=>ha y (List.mem_cons_of_mem _ hy))
theorem Z84_ok (d:TDoc) (h:d.sz<=1048576):Ok (Z84_q d):=by
 have hd:=d.sz_def;have h1:Sl.sz TDef.sz d.FDefs=1+(d.FDefs.l.map TDef.sz).sum:=rfl;unfold Z84_q
 (repeat' (first|exact Tot.some _|assumption|(with_reducible refine Tot.bind ?_ fun _ _=>?_)|(with_reducible refine Tot.guard (fun _=>?_) fun _ _ _=>?_)|(with_reducible refine Tot.cond (fun _=>?_) fun _=>?_)|(with_reducible refine Tot.on fun _ _=>?_)|split))
 exact Z84_out _ _ (by omega) (by omega) fun a ha=>by have:=TDoc.def_le ha; omega
end Go.Proofs

namespace Go.Proofs
open Go Go.Ab
def nnW (w:List Int):Bool:=w.head?==some 1
def liW (w:List Int):Bool:=w.head?==some 2
def barS (s:Sl Int):Sl Int:=bif nnW s.l then⟨s.nl,s.l.drop 1⟩ else s
def bar (t:TRef):TRef:=⟨t.FName,barS t.FWraps⟩
def innerT (t:TRef):TRef:=⟨t.FName,⟨(barS t.FWraps).nl,(barS t.FWraps).l.drop 1⟩⟩
theorem clone_eq {s:Sl Int}(h:SOk s):Z104_q s=some s:=by
 unfold Z104_q;obtain⟨nl,l⟩:=s;cases nl with
 | true=>have:=h.1 rfl; simp only at this; subst this; rfl
 | false =>
  simp only [cond_false];rw [appC_ok (by omega) (by have:=h.2; simp at this ⊢; omega)];simp
theorem isNonNull_eq (t:TRef):Z123_q t=nnW t.FWraps.l:=by
 unfold Z123_q nnW on;cases t.FWraps.l with
 | nil=>rfl
 | cons a r=>simp; by_cases h:a=1<;>simp [h]
theorem head_one {w:List Int}(h:nnW w=true):1<=w.length:=by cases w<;>simp [nnW] at h ⊢
theorem sok_drop {α:Type}{s:Sl α}(n:Nat) (h:SOk s):SOk ⟨s.nl,s.l.drop n⟩:=⟨fun e=>by simp [h.1 e],by have:=h.2; simp; omega⟩
theorem barS_ok {s:Sl Int}(h:SOk s):SOk (barS s):=by
 unfold barS;cases nnW s.l with
 | true=>exact sok_drop 1 h
 | false=>exact h
theorem innerT_ok {t:TRef}(h:SOk t.FWraps):SOk (innerT t).FWraps:=sok_drop 1 (barS_ok h)
theorem nullable_eq {t:TRef}(h:SOk t.FWraps):Z126_q t=some (bar t):=by
 unfold Z126_q bar barS on;simp only [isNonNull_eq];cases hn:nnW t.FWraps.l with
 | true =>
  simp only [cond_true];rw [partC_tail (head_one hn)];simp only [Option.bind_some];rw [clone_eq (sok_drop 1 h)]; rfl
 | false =>
  simp only [cond_false,Option.bind_some];rw [clone_eq h]; rfl
theorem isList_eq {t:TRef}(h:SOk t.FWraps):Z122_q t=some (liW (barS t.FWraps).l):=by
 unfold Z122_q;rw [nullable_eq h];simp only [Option.bind_some,on,bar,liW];cases (barS t.FWraps).l with
 | nil=>rfl
 | cons a r=>simp; by_cases h:a=2<;>simp [h]
theorem list_one {w:List Int}(h:liW w=true):1<=w.length:=by cases w<;>simp [liW] at h ⊢
theorem inner_eq {t:TRef}(h:SOk t.FWraps):Z121_q t=some (bif liW (barS t.FWraps).l then(innerT t,true) else(⟨[],Sl.nil⟩,false)):=by
 unfold Z121_q;rw [isList_eq h];simp only [Option.bind_some];cases hl:liW (barS t.FWraps).l with
 | false=>rfl
 | true =>
  simp only [Bool.not_true,cond_false,cond_true];rw [nullable_eq h];simp only [Option.bind_some,bar];rw [partC_tail (list_one hl)];rfl
theorem inner_lt {t:TRef}(h:liW (barS t.FWraps).l=true):(innerT t).FWraps.l.length<t.FWraps.l.length:=by
 have h1:=list_one h;have h2:(barS t.FWraps).l.length<=t.FWraps.l.length:=by
  unfold barS; cases nnW t.FWraps.l<;>simp
 simp [innerT]; omega
theorem findAux (l:List TDef) (s:Bs):Z88_q7 s l=(match l.find? (fun t=>t.FName==s) with|some t=>Sum.inr (t,true)|none=>Sum.inl ()):=by
 induction l with
 | nil=>rfl
 | cons a r ih =>
  rw [Z88_q7,List.find?_cons];simp only [on,ih];cases a.FName==s<;>rfl
def fnd (l:List TDef) (s:Bs):TDef×Bool:=match l.find? (fun t=>t.FName==s) with|some t=>(t,true)|none=>(TDef.zero,false)
theorem find_eq (d:TDoc) (s:Bs):Z88_q d s=fnd d.FDefs.l s:=by
 unfold Z88_q fnd on;rw [findAux];cases d.FDefs.l.find? (fun t=>t.FName==s)<;>rfl
theorem fnd_mem (l:List TDef) (s:Bs):(fnd l s).1=TDef.zero\/(fnd l s).1∈l:=by
 unfold fnd;cases h:l.find? (fun t=>t.FName==s) with
 | none=>exact .inl rfl
 | some t=>exact .inr (List.mem_of_find?_eq_some h)
theorem fieldAux (l:List Z5) (s:Bs):Z87_q7 s l=(match l.find? (fun t=>t.FName==s) with|some t=>Sum.inr (t,true)|none=>Sum.inl ()):=by
 induction l with
 | nil=>rfl
 | cons a r ih =>
  rw [Z87_q7,List.find?_cons];simp only [on,ih];cases a.FName==s<;>rfl
def fndF (l:List Z5) (s:Bs):Z5×Bool:=match l.find? (fun t=>t.FName==s) with|some t=>(t,true)|none=>(Z5.zero,false)
theorem fieldOf_eq (t:TDef) (s:Bs):Z87_q t s=fndF t.FFields.l s:=by
 unfold Z87_q fndF on;rw [fieldAux];cases t.FFields.l.find? (fun t=>t.FName==s)<;>rfl
theorem inputAux (l:List Z7) (s:Bs):Z89_q7 s l=(match l.find? (fun t=>t.FName==s) with|some t=>Sum.inr (t,true)|none=>Sum.inl ()):=by
 induction l with
 | nil=>rfl
 | cons a r ih =>
  rw [Z89_q7,List.find?_cons];simp only [on,ih];cases a.FName==s<;>rfl
def fndI (l:List Z7) (s:Bs):Z7×Bool:=match l.find? (fun t=>t.FName==s) with|some t=>(t,true)|none=>(Z7.zero,false)
theorem inputOf_eq (t:Sl Z7) (s:Bs):Z89_q t s=fndI t.l s:=by
 unfold Z89_q fndI on;rw [inputAux];cases t.l.find? (fun t=>t.FName==s)<;>rfl
def DefsOk (d:TDoc):Prop:=∀x∈d.FDefs.l,x.FFields.l.length<=1048576/\x.FInputs.l.length<=1048576/\(∀f∈x.FFields.l,SOk f.FType.FWraps/\f.FArgs.l.length<=1048576/\∀i∈f.FArgs.l,SOk i.FType.FWraps)/\∀i∈x.FInputs.l,SOk i.FType.FWraps
theorem TRef.sok {r:TRef}(h:r.sz<=1048576) (hw:r.wf):SOk r.FWraps:=⟨hw.2.1.1,by have:=r.sz_def; have:=Sl.len_le (f:=fun _:Int=>1) r.FWraps (fun _=>Nat.le_refl _); omega⟩
theorem Z7.sok {r:Z7}(h:r.sz<=1048576) (hw:r.wf):SOk r.FType.FWraps:=TRef.sok (by have:=r.sz_def; omega) (Z7.FType_wf hw)
theorem defsOk {d:TDoc}(h:d.sz<=1048576) (hw:d.wf):DefsOk d:=by
 intro x hx;have h1:=x.sz_def; have h2:=d.sz_def; have h3:=Sl.mem_le (f:=TDef.sz) hx;have h4:=Sl.len_lt (f:=Z5.sz) x.FFields Z5.pos; have h5:=Sl.len_lt (f:=Z7.sz) x.FInputs Z7.pos;have w:x.wf:=(TDoc.FDefs_wf hw).2.2 x hx;refine⟨by omega,by omega,fun f hf=>?_,fun i hi=>?_⟩
 ·have h6:=Sl.mem_le (f:=Z5.sz) hf; have h7:=f.sz_def; have h8:=Sl.len_lt (f:=Z7.sz) f.FArgs Z7.pos;have wf:f.wf:=(TDef.FFields_wf w).2.2 f hf;exact⟨TRef.sok (by omega) (Z5.FType_wf wf),by omega,fun i hi=>Z7.sok (by have:=Sl.mem_le (f:=Z7.sz) hi; omega) ((Z5.FArgs_wf wf).2.2 i hi)⟩
 ·exact Z7.sok (by have:=Sl.mem_le (f:=Z7.sz) hi; omega) ((TDef.FInputs_wf w).2.2 i hi)
theorem find_ok {d:TDoc}(h:DefsOk d) (s:Bs):(fnd d.FDefs.l s).1.FFields.l.length<=1048576/\(fnd d.FDefs.l s).1.FInputs.l.length<=1048576/\(∀f∈(fnd d.FDefs.l s).1.FFields.l,SOk f.FType.FWraps/\f.FArgs.l.length<=1048576/\∀i∈f.FArgs.l,SOk i.FType.FWraps)/\∀i∈(fnd d.FDefs.l s).1.FInputs.l,SOk i.FType.FWraps:=by
 rcases fnd_mem d.FDefs.l s with e|e
 ·rw [e]; exact⟨by simp [TDef.zero,Sl.nil],by simp [TDef.zero,Sl.nil],by simp [TDef.zero,Sl.nil],by simp [TDef.zero,Sl.nil]⟩
 ·exact h _ e
theorem sok_zero:SOk Z7.zero.FType.FWraps:=⟨fun _=>rfl,by decide⟩
theorem inputOk {l:List Z7}(h:∀i∈l,SOk i.FType.FWraps) (s:Bs):SOk (fndI l s).1.FType.FWraps:=by
 unfold fndI;cases e:l.find? (fun t=>t.FName==s) with
 | none=>exact sok_zero
 | some t=>exact h _ (List.mem_of_find?_eq_some e)
theorem fieldOk {l:List Z5}(h:∀f∈l,SOk f.FType.FWraps/\f.FArgs.l.length<=1048576/\∀i∈f.FArgs.l,SOk i.FType.FWraps) (s:Bs):SOk (fndF l s).1.FType.FWraps/\(fndF l s).1.FArgs.l.length<=1048576/\∀i∈(fndF l s).1.FArgs.l,SOk i.FType.FWraps:=by
 unfold fndF;cases e:l.find? (fun t=>t.FName==s) with
 | none=>exact⟨⟨fun _=>rfl,by decide⟩,by decide,fun i hi=>by cases hi⟩
 | some t=>exact h _ (List.mem_of_find?_eq_some e)
end Go.Proofs

namespace Go.Proofs
open Go Go.Ab
theorem index_value (l:List Z10) (p:Z10->Option Bool) (i:Nat) (h:∀x∈l,Ok (p x)):Ok (Z112_q6m p l i):=by
 induction l generalizing i with
 | nil=>exact Tot.some _
 | cons x r ih =>
  have hr:=ih (i+1) fun y hy=>h y (List.mem_cons_of_mem _ hy);have hx:=h x List.mem_cons_self;rw [Z112_q6m];simp only [on]
  (repeat' (first|exact Tot.some _|assumption|(with_reducible refine Tot.bind ?_ fun _ _=>?_)|(with_reducible refine Tot.guard (fun _=>?_) fun _ _ _=>?_)|(with_reducible refine Tot.cond (fun _=>?_) fun _=>?_)|(with_reducible refine Tot.on fun _ _=>?_)|split))
theorem contains_value (l:Sl Z10) (p:Z10->Option Bool) (h:∀x∈l.l,Ok (p x)):Ok (Z105_qm l p):=by
 unfold Z105_qm Z112_qm;have h1:=index_value l.l p 0 h
 (repeat' (first|exact Tot.some _|assumption|(with_reducible refine Tot.bind ?_ fun _ _=>?_)|(with_reducible refine Tot.guard (fun _=>?_) fun _ _ _=>?_)|(with_reducible refine Tot.cond (fun _=>?_) fun _=>?_)|(with_reducible refine Tot.on fun _ _=>?_)|split))
theorem object_loop (d:TDoc) (df:TDef) (v:Z10) (k:TDoc->TRef->Z10->Option Bool) (l:List Bs) (i:Nat) (h:∀t x,SOk t.FWraps->x∈v.FItems.l->Ok (k d t x)) (hd:∀i∈df.FInputs.l,SOk i.FType.FWraps):Ok (Z35_q7 d df v k l i):=by
 induction l generalizing i with
 | nil=>exact Tot.some _
 | cons x r ih =>
  have hr:=ih (i+1);rw [Z35_q7];simp only [on,inputOf_eq];have hs:=inputOk hd x;generalize fndI df.FInputs.l x=y at hs;by_cases hi:i<v.FItems.l.length
  ·obtain⟨b,hb⟩:=h _ _ hs (List.getElem_mem hi);have hd2:decide (((v.FItems.l.length:Nat):Int)<=((i:Nat):Int))=false:=by simp; omega
   simp only [List.getElem?_eq_getElem hi,hd2,Bool.or_false];cases y.2<;>simp only [guardO,Bool.not_false,Bool.not_true,if_true,Bool.false_eq_true,if_false,Option.bind_some,hb,Bool.true_or,Bool.false_or,cond_true]
   ·exact Tot.some _
   ·(repeat' (first|exact Tot.some _|assumption|(with_reducible refine Tot.bind ?_ fun _ _=>?_)|(with_reducible refine Tot.guard (fun _=>?_) fun _ _ _=>?_)|(with_reducible refine Tot.cond (fun _=>?_) fun _=>?_)|(with_reducible refine Tot.on fun _ _=>?_)|split))
  ·have hd2:decide (((v.FItems.l.length:Nat):Int)<=((i:Nat):Int))=true:=by simp; omega
   simp only [hd2,Bool.or_true,guardO,Bool.not_true,Bool.false_eq_true,if_false,Bool.true_or,cond_true];exact Tot.some _
theorem fits_tot (d:TDoc) (hd:DefsOk d) (n:Nat) :
  (∀(t:TRef) (v:Z10),SOk t.FWraps->2*(v.sz*2097152+t.FWraps.l.length)+2<n->Ok (fields_fits_qn n d t v)) /\
  (∀(v:Z10) (t:TRef),SOk t.FWraps->2*(v.sz*2097152+t.FWraps.l.length)+3<n->Ok (fields_fits_1_qn n v d t)) /\
  (∀(x:TDef) (v:Z10),(∀i∈x.FInputs.l,SOk i.FType.FWraps)->2*(v.sz*2097152)+1<n->Ok (Z35_qn n d x v)):=by
 induction n with
 | zero=>exact⟨fun _ _ _ h=>by omega,fun _ _ _ h=>by omega,fun _ _ _ h=>by omega⟩
 | succ n ih =>
  obtain⟨ih1,ih2,ih3⟩:=ih;refine⟨fun t v ht h=>?_,fun v t ht h=>?_,fun x v hx h=>?_⟩
  ·rw [fields_fits_qn];simp only [inner_eq ht,Option.bind_some,find_eq];refine Tot.cond (fun _=>Tot.some _) fun _=>Tot.on fun _ _=>Tot.cond (fun _=>Tot.some _) fun _=>Tot.cond (fun _=>Tot.on fun _ _=>Tot.some _) fun _=>?_;cases hl:liW (barS t.FWraps).l with
   | true =>
    have h1:=inner_lt hl; have h2:=innerT_ok ht; have h3:=h2.2; have h4:=ht.2;simp only [cond_true]
    (repeat' (first|exact Tot.some _|assumption|(with_reducible refine Tot.bind ?_ fun _ _=>?_)|(with_reducible refine Tot.guard (fun _=>?_) fun _ _ _=>?_)|(with_reducible refine Tot.cond (fun _=>?_) fun _=>?_)|(with_reducible refine Tot.on fun _ _=>?_)|split))
    ·exact ih1 _ _ h2 (by omega)
    ·exact contains_value _ _ fun x hx=>ih2 x _ h2 (by have:=Z10.item_lt hx; omega)
   | false =>
    simp only [cond_false]
    (repeat' (first|exact Tot.some _|assumption|(with_reducible refine Tot.bind ?_ fun _ _=>?_)|(with_reducible refine Tot.guard (fun _=>?_) fun _ _ _=>?_)|(with_reducible refine Tot.cond (fun _=>?_) fun _=>?_)|(with_reducible refine Tot.on fun _ _=>?_)|split))
    rename_i hx _ _
    rw [hx];exact ih3 _ _ (find_ok hd _).2.2.2 (by omega)
  ·rw [fields_fits_1_qn];exact Tot.bind (ih1 t v ht (by omega)) fun _ _=>Tot.some _
  ·rw [Z35_qn];have h1:=object_loop d x v (fields_fits_qn n) v.FKeys.l 0 (fun t y ht hy=>ih1 t y ht (by have:=Z10.item_lt hy; have:=ht.2; omega)) hx
   (repeat' (first|exact Tot.some _|assumption|(with_reducible refine Tot.bind ?_ fun _ _=>?_)|(with_reducible refine Tot.guard (fun _=>?_) fun _ _ _=>?_)|(with_reducible refine Tot.cond (fun _=>?_) fun _=>?_)|(with_reducible refine Tot.on fun _ _=>?_)|split))
def fitsB (d:TDoc) (t:TRef) (v:Z10):Bool:=(fields_fits_q d t v).getD false
theorem fits_eq {d:TDoc}(hd:DefsOk d){t:TRef}{v:Z10}(ht:SOk t.FWraps) (hv:v.sz<=1048576):fields_fits_q d t v=some (fitsB d t v):=by
 obtain⟨b,hb⟩:=(fits_tot d hd F0).1 t v ht (by have:=ht.2; rw [F0_eq]; omega);have:fields_fits_q d t v=some b:=hb;simp [fitsB,this]
end Go.Proofs

namespace Go.Proofs
open Go Go.Ab
def addF (c:Z1) (X:List Z4):Z1:=⟨c.Fd,c.Fq,⟨c.Fout.nl&&X.isEmpty,c.Fout.l++X⟩⟩
theorem addF_nil (c:Z1):addF c []=c:=by obtain⟨d,q,nl,l⟩:=c; simp [addF]
theorem addF_add (c:Z1) (X Y:List Z4):addF (addF c X) Y=addF c (X++Y):=by
 cases X<;>cases Y<;>simp [addF]
def Eff (d:TDoc) (f:Z1->Option Z1) (X:List Z4):Prop:=∀c,c.Fd=d->c.Fout.l.length+X.length<=4398046511104->f c=some (addF c X)
theorem Eff.bind {d:TDoc}{f g:Z1->Option Z1}{X Y:List Z4}(h:Eff d f X) (h2:Eff d g Y):Eff d (fun c=>(f c).bind g) (X++Y):=by
 intro c hc hb;simp only [List.length_append] at hb;show (f c).bind g=_;rw [h c hc (by omega),Option.bind_some,h2 (addF c X) hc (by simp only [addF,List.length_append]; omega),addF_add]
theorem Eff.id {d:TDoc}:Eff d (fun c=>some c) []:=fun c _ _=>by rw [addF_nil]
theorem Eff.of {d:TDoc}{f g:Z1->Option Z1}{X Y:List Z4}(h:Eff d g Y) (e:X=Y) (h2:∀c,c.Fd=d->f c=g c):Eff d f X:=by
 subst e; intro c hc hb; rw [h2 c hc]; exact h c hc hb
theorem Eff.cond {d:TDoc}{f g:Z1->Option Z1}{X Y:List Z4}(b:Bool) (h:Eff d f X) (h2:Eff d g Y):Eff d (fun c=>_root_.cond b (f c) (g c)) (_root_.cond b X Y):=by cases b<;>assumption
def flt (b:Bool) (e:Int) (at_:Bs):List Z4:=bif b then [⟨e,at_⟩] else []
theorem add_eff (d:TDoc) (b:Bool) (e:Int) (at_:Bs):Eff d (fun c=>Z26_q c b e at_) (flt b e at_):=by
 intro c hc hb;show Z26_q c b e at_=_;unfold Z26_q flt at *;cases b with
 | false=>rw [cond_false,cond_false,addF_nil]
 | true =>
  simp only [cond_true,List.length_cons,List.length_nil] at hb ⊢;rw [appC_ok32 (by omega) (by simp only [List.length_cons,List.length_nil]; omega)];rfl
def badV (v:Z10):Bool:=(decide (v.FKind=7)||(decide (v.FKind=3)&&(v.FText==[])))||(decide (v.FKind=2)&&decide (v.FInt<0))
def knownX (d:TDoc) (defs:Sl Z7) (all:Sl TArg) (strict:Bool) (at_:Bs):List TArg->Nat->List Z4
 | [],_=>[]
 | x::r,i=>(bif (!(fndI defs.l x.FName).2)||(Z33_q ⟨all.nl,all.l.take i⟩ x.FName).2 then flt true 22 at_ else flt ((!fitsB d (fndI defs.l x.FName).1.FType x.FValue)||(strict&&badV x.FValue)) 23 at_)++knownX d defs all strict at_ r (i+1)
theorem known_loop {d:TDoc}(hd:DefsOk d) (defs:Sl Z7) (hs:∀i∈defs.l,SOk i.FType.FWraps) (all:Sl TArg) (strict:Bool) (at_:Bs) (l:List TArg) (i:Nat) (hl:∀a∈l,a.sz<=1048576) :
  Eff d (fun c=>Z30_q3 defs all strict at_ l i c) (knownX d defs all strict at_ l i):=by
 induction l generalizing i with
 | nil=>exact Eff.id
 | cons x r ih =>
  have hx:=hl x List.mem_cons_self;refine Eff.of ((Eff.cond _ (add_eff d true 22 at_) (add_eff d ((!fitsB d (fndI defs.l x.FName).1.FType x.FValue)||(strict&&badV x.FValue)) 23 at_)).bind (ih (i+1) fun y hy=>hl y (List.mem_cons_of_mem _ hy))) rfl fun c hc=>?_;rw [Z30_q3];simp only [on,inputOf_eq,hc,fits_eq hd (inputOk hs x.FName) (show x.FValue.sz<=1048576 by have:=x.value_le; omega),Option.bind_some,badV,Q.some_bind]
theorem known_eff {d:TDoc}(hd:DefsOk d) (defs:Sl Z7) (hs:∀i∈defs.l,SOk i.FType.FWraps) (all:Sl TArg) (strict:Bool) (at_:Bs) (hl:∀a∈all.l,a.sz<=1048576) :
  Eff d (fun c=>Z30_q c defs all strict at_) (knownX d defs all strict at_ all.l 0):=by
 refine Eff.of (known_loop hd defs hs all strict at_ all.l 0 hl) rfl fun c hc=>?_;unfold Z30_q;exact Q.some_bind _
def missX (at_:Bs) (x:Sl TArg):List Z7->List Z4
 | []=>[]
 | y::r=>flt (!(Z33_q x y.FName).2) 22 at_++missX at_ x r
theorem miss_eff (d:TDoc) (at_:Bs) (x:TDir) (l:List Z7):Eff d (fun c=>Z27_q30 at_ x l c) (missX at_ x.FArgs l):=by
 induction l with
 | nil=>exact Eff.id
 | cons y r ih=>exact Eff.of ((add_eff d _ 22 at_).bind ih) rfl fun c hc=>by rw [Z27_q30]; rfl
def needX (at_:Bs) (x:Sl TArg):List Z7->List Z4
 | []=>[]
 | y::r=>flt ((Z123_q y.FType&&!y.FHas)&&!(Z33_q x y.FName).2) 22 at_++needX at_ x r
theorem need_eff (d:TDoc) (at_:Bs) (x:TSel) (l:List Z7):Eff d (fun c=>Z29_q37 x at_ l c) (needX at_ x.FArgs l):=by
 induction l with
 | nil=>exact Eff.id
 | cons y r ih=>exact Eff.of ((add_eff d _ 22 at_).bind ih) rfl fun c hc=>by rw [Z29_q37]; rfl
def needT (s t:Bs):Z7:=⟨s,⟨t,⟨false,[1]⟩⟩,false,Z10.zero,Sl.nil⟩
def argsX (name:Bs) (field:Bool):Sl Z7 :=
 bif (name==[115,107,105,112])||(name==[105,110,99,108,117,100,101]) then⟨false,[needT [105,102] [66,111,111,108,101,97,110]]⟩
 else bif (name==[100,101,102,101,114])&&!field then⟨false,[needT [108,97,98,101,108] [83,116,114,105,110,103]]⟩
 else bif (name==[115,116,114,101,97,109])&&field then⟨false,[needT [108,97,98,101,108] [83,116,114,105,110,103],needT [105,110,105,116,105,97,108,67,111,117,110,116] [73,110,116]]⟩
 else Sl.nil
theorem needed_eq (s t:Bs):Z34_q s t=some (needT s t):=by
 unfold Z34_q Z125_q;simp only [on,isNonNull_eq,Z124_q,Sl.nil,nnW,List.head?_nil];rw [show (none==some (1:Int))=false from rfl,cond_false];rw [appC_ok (by omega) (by simp)];rfl
theorem argsOf_eq (name:Bs) (field:Bool):Z25_q name field=some (argsX name field):=by
 unfold Z25_q argsX;simp only [needed_eq,Option.bind_some];cases (name==[115,107,105,112])||(name==[105,110,99,108,117,100,101])<;>cases (name==[100,101,102,101,114])&&!field<;>cases (name==[115,116,114,101,97,109])&&field<;>rfl
theorem argsX_ok (name:Bs) (field:Bool):(argsX name field).l.length<=2/\∀i∈(argsX name field).l,SOk i.FType.FWraps:=by
 have h:∀s t,SOk (needT s t).FType.FWraps:=fun s t=>⟨fun h=>(by cases h),by simp [needT]⟩;unfold argsX;cases (name==[115,107,105,112])||(name==[105,110,99,108,117,100,101])<;>cases (name==[100,101,102,101,114])&&!field<;>cases (name==[115,116,114,101,97,109])&&field<;>simp [Sl.nil,h]
def defsX (field:Bool) (t:TRef) (is:Bool) (x:TDir):Sl Z7:=bif ((x.FName==[115,116,114,101,97,109])&&is)&&!(liW (barS t.FWraps).l) then Sl.nil else argsX x.FName field
def dirX (d:TDoc) (s:TSel) (t:TRef) (is:Bool) (at_:Bs) (x:TDir) (i:Nat):List Z4 :=
 bif (defsX ((!decide (s.FKind=2))&&!decide (s.FKind=3)) t is x).nl||(bif !(defsX ((!decide (s.FKind=2))&&!decide (s.FKind=3)) t is x).nl then Z106_q (bif !(defsX ((!decide (s.FKind=2))&&!decide (s.FKind=3)) t is x).nl then⟨s.FDirs.nl,s.FDirs.l.take i⟩ else Sl.nil) (fun y=>Z28_q y x) else false) then flt true 29 at_
 else knownX d (defsX ((!decide (s.FKind=2))&&!decide (s.FKind=3)) t is x) x.FArgs ((x.FName==[100,101,102,101,114])||(x.FName==[115,116,114,101,97,109])) at_ x.FArgs.l 0++missX at_ x.FArgs (defsX ((!decide (s.FKind=2))&&!decide (s.FKind=3)) t is x).l
def dirsX (d:TDoc) (s:TSel) (t:TRef) (is:Bool) (at_:Bs):List TDir->Nat->List Z4
 | [],_=>[]
 | x::r,i=>dirX d s t is at_ x i++dirsX d s t is at_ r (i+1)
theorem defsX_ok (field:Bool) (t:TRef) (is:Bool) (x:TDir):(defsX field t is x).l.length<=2/\∀i∈(defsX field t is x).l,SOk i.FType.FWraps:=by
 unfold defsX;cases ((x.FName==[115,116,114,101,97,109])&&is)&&!(liW (barS t.FWraps).l) with
 | true=>exact⟨by simp [Sl.nil],fun i hi=>by cases hi⟩
 | false=>exact argsX_ok _ _
theorem guard_isList {α:Type}(b:Bool){t:TRef}(h:SOk t.FWraps) (k:Bool->Option α):guardO b (Z122_q t) false k=k (b&&liW (barS t.FWraps).l):=by
 cases b with
 | false=>rfl
 | true=>rw [isList_eq h]; rfl
theorem dirs_loop {d:TDoc}(hd:DefsOk d) (s:TSel){t:TRef}(ht:SOk t.FWraps) (is:Bool) (at_:Bs) (l:List TDir) (i:Nat) (hl:∀a∈l,a.sz<=1048576) :
  Eff d (fun c=>Z27_q4 s t is at_ l i c) (dirsX d s t is at_ l i):=by
 induction l generalizing i with
 | nil=>exact Eff.id
 | cons x r ih =>
  have hx:=hl x List.mem_cons_self;have hk:=known_eff hd (defsX ((!decide (s.FKind=2))&&!decide (s.FKind=3)) t is x) (defsX_ok _ _ _ _).2 x.FArgs ((x.FName==[100,101,102,101,114])||(x.FName==[115,116,114,101,97,109])) at_ fun a ha=>by have:=TDir.arg_le ha; omega
  refine Eff.of ((Eff.cond _ (add_eff d true 29 at_) (hk.bind (miss_eff d at_ x _))).bind (ih (i+1) fun y hy=>hl y (List.mem_cons_of_mem _ hy))) rfl fun c hc=>?_;rw [Z27_q4];simp only [on,argsOf_eq,Option.bind_some,guard_isList _ ht,Q.some_bind];have e:(bif ((x.FName==[115,116,114,101,97,109])&&is)&&!((x.FName==[115,116,114,101,97,109])&&is&&liW (barS t.FWraps).l) then(Sl.nil:Sl Z7) else argsX x.FName ((!decide (s.FKind=2))&&!decide (s.FKind=3)))=defsX ((!decide (s.FKind=2))&&!decide (s.FKind=3)) t is x:=by
   unfold defsX;cases ((x.FName==[115,116,114,101,97,109])&&is)<;>rfl
  simp only [e]
theorem dirs_eff {d:TDoc}(hd:DefsOk d) (s:TSel){t:TRef}(ht:SOk t.FWraps) (is:Bool) (at_:Bs) (hl:∀a∈s.FDirs.l,a.sz<=1048576) :
  Eff d (fun c=>Z27_q c s t is at_) (dirsX d s t is at_ s.FDirs.l 0):=by
 refine Eff.of (dirs_loop hd s ht is at_ s.FDirs.l 0 hl) rfl fun c hc=>?_;unfold Z27_q;exact Q.some_bind _
end Go.Proofs

namespace Go.Proofs
open Go Go.Ab
def sTypename:Bs:=[95,95,116,121,112,101,110,97,109,101]
def typeX (d:TDoc) (on_ f:Bs):TRef×Bool :=
 bif !Z86_q d on_ then(⟨[],Sl.nil⟩,false)
 else bif f==sTypename then(⟨[83,116,114,105,110,103],⟨false,[1]⟩⟩,true)
 else bif !(fndF (fnd d.FDefs.l on_).1.FFields.l f).2 then(⟨[],Sl.nil⟩,false)
 else(⟨(fndF (fnd d.FDefs.l on_).1.FFields.l f).1.FType.FName,(fndF (fnd d.FDefs.l on_).1.FFields.l f).1.FType.FWraps⟩,true)
theorem type_eq {d:TDoc}(hd:DefsOk d) (on_ f:Bs):Z24_q d on_ f=some (typeX d on_ f):=by
 unfold Z24_q typeX;simp only [on,find_eq,fieldOf_eq,Z124_q,clone_eq (fieldOk (find_ok hd on_).2.2.1 f).1,Option.bind_some];have hs:Z125_q ⟨[83,116,114,105,110,103],Sl.nil⟩=some ⟨[83,116,114,105,110,103],⟨false,[1]⟩⟩:=by kernel_rfl
 rw [hs];cases Z86_q d on_ with
 | false=>rfl
 | true =>
  simp only [Bool.not_true,cond_false];show (bif f==sTypename then _ else _)=some (bif f==sTypename then _ else _);cases f==sTypename with
  | true=>rfl
  | false =>
   simp only [cond_false];cases (fndF (fnd d.FDefs.l on_).1.FFields.l f).2<;>rfl
theorem typeX_ok {d:TDoc}(hd:DefsOk d) (on_ f:Bs):SOk (typeX d on_ f).1.FWraps:=by
 have h1:=(fieldOk (find_ok hd on_).2.2.1 f).1;unfold typeX;cases Z86_q d on_ with
 | false=>exact⟨fun _=>rfl,by simp [Sl.nil]⟩
 | true =>
  simp only [Bool.not_true,cond_false];cases f==sTypename with
  | true=>exact⟨fun h=>(by cases h),by simp⟩
  | false =>
   simp only [cond_false];cases (fndF (fnd d.FDefs.l on_).1.FFields.l f).2 with
   | false=>exact⟨fun _=>rfl,by simp [Sl.nil]⟩
   | true=>exact h1
def keyX (s:TSel):Bs:=bif s.FAlias==[] then s.FName else s.FAlias
def placeX (s:TSel) (at_:Bs):Bs:=at_++([47]++keyX s)
def defX (d:TDoc) (s:TSel) (on_:Bs):Z5:=bif !(s.FName==sTypename) then(fndF (fnd d.FDefs.l on_).1.FFields.l s.FName).1 else⟨[],Sl.nil,TRef.zero,Sl.nil⟩
def leafX (d:TDoc) (s:TSel) (t:TRef) (at_:Bs):List Z4 :=
 flt ((Z91_q d t.FName&&decide ((0:Int)<((s.FSels.l.length:Nat):Int)))||((bif !(Z91_q d t.FName&&decide ((0:Int)<((s.FSels.l.length:Nat):Int))) then Z86_q d t.FName else false)&&decide (((s.FSels.l.length:Nat):Int)=0))) 21 at_
def ownX (d:TDoc) (s:TSel) (on_ at_:Bs):List Z4 :=
 flt (Z120_q s.FAlias) 6 at_++(flt ((!(typeX d on_ s.FName).2)&&(bif !(typeX d on_ s.FName).2 then Z86_q d on_ else false)) 20 at_ ++
  ((bif (typeX d on_ s.FName).2 then leafX d s (typeX d on_ s.FName).1 at_++(knownX d (defX d s on_).FArgs s.FArgs false at_ s.FArgs.l 0++needX at_ s.FArgs (defX d s on_).FArgs.l) else []) ++
   dirsX d s (typeX d on_ s.FName).1 (typeX d on_ s.FName).2 at_ s.FDirs.l 0))
def selX (k:List TSel->Bs->Bs->List Z4) (d:TDoc) (on_ at_:Bs) (s:TSel):List Z4 :=
 bif decide (s.FKind=2) then dirsX d s ⟨[],Sl.nil⟩ false at_ s.FDirs.l 0
 else bif decide (s.FKind=3) then dirsX d s ⟨[],Sl.nil⟩ false at_ s.FDirs.l 0++k s.FSels.l (bif !(s.FOn==[]) then s.FOn else on_) at_
 else ownX d s on_ (placeX s at_)++k s.FSels.l (typeX d on_ s.FName).1.FName (placeX s at_)
def selsX:Nat->TDoc->List TSel->Bs->Bs->List Z4
 | 0,_,_,_,_=>[]
 | n+1,d,l,on_,at_=>l.flatMap (selX (selsX n d) d on_ at_)
theorem defX_ok {d:TDoc}(hd:DefsOk d) (s:TSel) (on_:Bs):(defX d s on_).FArgs.l.length<=1048576/\∀i∈(defX d s on_).FArgs.l,SOk i.FType.FWraps:=by
 unfold defX;cases s.FName==sTypename with
 | true=>exact⟨by simp [Sl.nil],fun i hi=>by cases hi⟩
 | false=>exact(fieldOk (find_ok hd on_).2.2.1 _).2
theorem nil_ok:SOk (TRef.mk [] Sl.nil).FWraps:=⟨fun _=>rfl,by simp [Sl.nil]⟩
theorem TSel.dir_le {s:TSel}(hs:s.sz<=1048576):(∀a∈s.FDirs.l,a.sz<=1048576)/\∀a∈s.FArgs.l,a.sz<=1048576:=by
 have h:=s.sz_def;exact⟨fun a ha=>by have:=Sl.mem_le (f:=TDir.sz) ha; omega,fun a ha=>by have:=Sl.mem_le (f:=TArg.sz) ha; omega⟩
theorem TSel.key_le (s:TSel) (at_:Bs):(placeX s at_).length+Sl.sz TSel.sz s.FSels<=at_.length+s.sz:=by
 have h:=s.sz_def;have h1:Bs.sz s.FAlias=s.FAlias.length+1:=rfl;have h2:Bs.sz s.FName=s.FName.length+1:=rfl;unfold placeX keyX;cases s.FAlias==[]<;>simp<;>omega
theorem loop_eff {d:TDoc}(on_ at_:Bs) (k:Z1->Sl TSel->Bs->Bs->Option Z1) (kf:Z1->TSel->Bs->Bs->Option Z1) (X:TSel->List Z4) (l:List TSel)
  (h:∀s∈l,Eff d (fun c=>bif decide (s.FKind=2) then(Z27_q c s ⟨[],Sl.nil⟩ false at_) else(bif decide (s.FKind=3) then((Z27_q c s ⟨[],Sl.nil⟩ false at_).bind fun x=>k x s.FSels (bif !(s.FOn==[]) then s.FOn else on_) at_) else(kf c s on_ at_))) (X s)) :
  Eff d (fun c=>fields_checker_sels_q3 on_ at_ k kf l c) (l.flatMap X):=by
 induction l with
 | nil=>exact Eff.id
 | cons s r ih =>
  refine Eff.of ((h s List.mem_cons_self).bind (ih fun y hy=>h y (List.mem_cons_of_mem _ hy))) (by simp) fun c hc=>?_;rw [fields_checker_sels_q3];simp only [on,Q.some_bind]
theorem add_bind {c:Z1}{b:Bool}{e:Int}{a:Bs}{k k':Z1->Option Z1}(h:∀x:Z1,x.Fd=c.Fd->k x=k' x):(Z26_q c b e a).bind k=(Z26_q c b e a).bind k':=by
 unfold Z26_q;cases b with
 | false=>exact h c rfl
 | true =>
  simp only [cond_true];cases appC 24 c.Fout ⟨false,[⟨e,a⟩]⟩ with
  | none=>rfl
  | some x=>exact h _ rfl
theorem sels_tot {d:TDoc}(hd:DefsOk d) (n:Nat) :
  (∀(l:Sl TSel) (on_ at_:Bs) (m:Nat),2*Sl.sz TSel.sz l<n->Sl.sz TSel.sz l<=1048576->at_.length+Sl.sz TSel.sz l<=1073741824->Sl.sz TSel.sz l<=m->Eff d (fun c=>fields_checker_sels_qn n c l on_ at_) (selsX m d l.l on_ at_)) /\
  (∀(s:TSel) (on_ at_:Bs) (m:Nat),2*s.sz<n->s.sz<=1048576->at_.length+s.sz<=1073741824->s.sz<=m->Eff d (fun c=>Z29_qn n c s on_ at_) (ownX d s on_ (placeX s at_)++selsX m d s.FSels.l (typeX d on_ s.FName).1.FName (placeX s at_))):=by
 induction n with
 | zero=>exact⟨fun _ _ _ _ h=>by omega,fun _ _ _ _ h=>by omega⟩
 | succ n ih =>
  obtain⟨ih1,ih2⟩:=ih;refine⟨fun l on_ at_ m h1 h2 h3 h4=>?_,fun s on_ at_ m h1 h2 h3 h4=>?_⟩
  ·obtain⟨m,rfl⟩:∃k,m=k+1:=⟨m-1,by have:1<=Sl.sz TSel.sz l:=Sl.sz_pos _ _; omega⟩;refine Eff.of (loop_eff on_ at_ (fields_checker_sels_qn n) (Z29_qn n) (selX (selsX m d) d on_ at_) l.l fun s hs=>?_) rfl fun c hc=>by rw [fields_checker_sels_qn]; exact Q.some_bind _
   have h5:=Sl.mem_le (f:=TSel.sz) hs;have h6:=s.sub_lt;have h7:=TSel.dir_le (s:=s) (by omega);unfold selX;exact Eff.cond _ (dirs_eff hd s nil_ok false at_ h7.1) (Eff.cond _ ((dirs_eff hd s nil_ok false at_ h7.1).bind (ih1 _ _ _ m (by omega) (by omega) (by omega) (by omega))) (ih2 s on_ at_ m (by omega) (by omega) (by omega) (by omega)))
  ·have h6:=s.sub_lt;have h7:=TSel.dir_le (s:=s) (by omega);have h8:=s.key_le at_;have hk:(keyX s).length+1<=s.sz:=by have:=s.sz_def; unfold placeX at h8; simp at h8; omega
   have e1:catC [47] (keyX s)=some ([47]++keyX s):=catC_ok (by simp; omega);have e2:catC at_ ([47]++keyX s)=some (placeX s at_):=catC_ok (by simp; omega);have hD:=defX_ok hd s on_;have hT:=typeX_ok hd on_ s.FName;have hmid:Eff d (fun c=>Option.bind (bif (typeX d on_ s.FName).2 then((Z26_q c ((Z91_q d (typeX d on_ s.FName).1.FName&&decide ((0:Int)<((s.FSels.l.length:Nat):Int)))||((bif !(Z91_q d (typeX d on_ s.FName).1.FName&&decide ((0:Int)<((s.FSels.l.length:Nat):Int))) then Z86_q d (typeX d on_ s.FName).1.FName else false)&&decide (((s.FSels.l.length:Nat):Int)=0))) 21 (placeX s at_)).bind fun x=>(Z30_q x (defX d s on_).FArgs s.FArgs false (placeX s at_)).bind fun y=>Z29_q37 s (placeX s at_) (defX d s on_).FArgs.l y) else some c) fun y=>Z27_q y s (typeX d on_ s.FName).1 (typeX d on_ s.FName).2 (placeX s at_)) ((bif (typeX d on_ s.FName).2 then leafX d s (typeX d on_ s.FName).1 (placeX s at_)++(knownX d (defX d s on_).FArgs s.FArgs false (placeX s at_) s.FArgs.l 0++needX (placeX s at_) s.FArgs (defX d s on_).FArgs.l) else []) ++
   dirsX d s (typeX d on_ s.FName).1 (typeX d on_ s.FName).2 (placeX s at_) s.FDirs.l 0) :=
    (Eff.cond _ ((add_eff d _ 21 _).bind ((known_eff hd _ hD.2 s.FArgs false _ h7.2).bind (need_eff d _ s _))) Eff.id).bind (dirs_eff hd s hT _ _ h7.1)
   refine Eff.of (((add_eff d (Z120_q s.FAlias) 6 (placeX s at_)).bind ((add_eff d ((!(typeX d on_ s.FName).2)&&(bif !(typeX d on_ s.FName).2 then Z86_q d on_ else false)) 20 (placeX s at_)).bind hmid)).bind (ih1 s.FSels (typeX d on_ s.FName).1.FName (placeX s at_) m (by omega) (by omega) (by omega) (by omega))) rfl fun c hc=>?_;rw [Z29_qn];simp only [on,find_eq,fieldOf_eq,Q.some_bind];show ((catC [47] (keyX s)).bind fun x6=>(catC at_ x6).bind _)=_
   rw [e1,Option.bind_some,e2,Option.bind_some];simp only [Option.bind_assoc];refine add_bind fun x10 h10=>?_;simp only [h10,hc,type_eq hd,Option.bind_some];refine add_bind fun x15 h15=>?_;simp only [h15,h10,hc];refine congrArg (fun z=>Option.bind (cond _ z _) _) ?_;refine add_bind fun x27 h27=>?_;simp only [h27,h15,h10,hc];rfl
end Go.Proofs

namespace Go.Proofs
open Go Go.Ab
def unseen (fr:Sl Z6) (seen:List Bs):Nat:=(fr.l.filter fun f=>!seen.contains f.FName).length
theorem filter_le {α:Type}{p q:α->Bool}{l:List α}(h:∀x∈l,p x=true->q x=true):(l.filter p).length<=(l.filter q).length:=by
 induction l with
 | nil=>simp
 | cons a r ih =>
  have:=ih fun x hx=>h x (List.mem_cons_of_mem _ hx);have h1:=h a List.mem_cons_self;simp only [List.filter_cons];cases hp:p a<;>cases hq:q a<;>simp_all<;>omega
theorem filter_lt {α:Type}{p q:α->Bool}{l:List α}{y:α}(h:∀x∈l,p x=true->q x=true) (hy:y∈l) (h1:p y=false) (h2:q y=true):(l.filter p).length<(l.filter q).length:=by
 induction l with
 | nil=>cases hy
 | cons a r ih =>
  have h3:=filter_le (l:=r) (p:=p) (q:=q) fun x hx=>h x (List.mem_cons_of_mem _ hx);simp only [List.filter_cons];rcases List.mem_cons.1 hy with rfl|hy
  ·simp [h1,h2]; omega
  ·have:=ih (fun x hx=>h x (List.mem_cons_of_mem _ hx)) hy;have h4:=h a List.mem_cons_self;cases hp:p a<;>cases hq:q a<;>simp_all<;>omega
theorem unseen_le {fr:Sl Z6}{a b:List Bs}(h:∀s∈a,s∈b):unseen fr b<=unseen fr a:=filter_le fun x _ hp=>by
 simp at hp ⊢; exact fun h2=>hp (h _ h2)
theorem unseen_lt {fr:Sl Z6}{a b:List Bs}(h:∀s∈a,s∈b){f:Z6}(hf:f∈fr.l) (h1:f.FName∉a) (h2:f.FName∈b):unseen fr b<unseen fr a :=
 filter_lt (fun x _ hp=>by simp at hp ⊢; exact fun h2=>hp (h _ h2)) hf (by simpa using h2) (by simpa using h1)
theorem mem_insS {l:List Bs}{s t:Bs}(h:t∈l):t∈insS l s:=by unfold insS; split<;>simp [h]
theorem self_insS (l:List Bs) (s:Bs):s∈insS l s:=by
 unfold insS; split
 ·rename_i h; simpa using h
 ·simp
def Root (fr:Sl Z6) (f:Z1->Option (List Bs×List Bs)) (seen:List Bs):Prop:=∃r,(∀c:Z1,c.Fq.FFrags=fr->f c=some r)/\∀s∈seen,s∈r.2
theorem Root.bind {fr:Sl Z6}{f:Z1->Option (List Bs×List Bs)}{g:Z1->List Bs×List Bs->Option (List Bs×List Bs)}{seen:List Bs}(h:Root fr f seen) (h2:∀r:List Bs×List Bs,(∀s∈seen,s∈r.2)->Root fr (fun c=>g c r) r.2):Root fr (fun c=>(f c).bind (g c)) seen:=by
 obtain⟨r,h3,h4⟩:=h;obtain⟨r2,h5,h6⟩:=h2 r h4;exact⟨r2,fun c hc=>by show (f c).bind _=_; rw [h3 c hc,Option.bind_some]; exact h5 c hc,fun s hs=>h6 s (h4 s hs)⟩
theorem Root.some {fr:Sl Z6}{r:List Bs×List Bs}{seen:List Bs}(h:∀s∈seen,s∈r.2):Root fr (fun _=>Option.some r) seen:=⟨r,fun _ _=>rfl,h⟩
theorem roots_in {fr:Sl Z6}(x:TSel) (k:Z1->Sl TSel->List Bs->List Bs->Option (List Bs×List Bs)) (seen0:List Bs) (l:List Z6) (hl:∀f∈l,f∈fr.l)
  (hk:∀(f:Z6) keys seen,f∈fr.l->unseen fr seen<unseen fr seen0->Root fr (fun c=>k c f.FSels keys seen) seen) (keys seen:List Bs) (hs:∀s∈seen0,s∈seen):Root fr (fun c=>Z31_q23 c x k l keys seen) seen:=by
 induction l generalizing keys seen with
 | nil=>exact Root.some fun _ h=>h
 | cons f r ih =>
  have ih:=ih fun y hy=>hl y (List.mem_cons_of_mem _ hy);have hf:=hl f List.mem_cons_self;have key:Root fr (fun c=>bif (((f.FName==x.FName))&&(!(seen.contains x.FName))) then((k c f.FSels keys (insS seen x.FName)).bind fun x38=>some (x38.1,x38.2)) else(some (keys,seen))) seen:=by
   cases hc:((f.FName==x.FName))&&(!(seen.contains x.FName)) with
   | false=>exact Root.some fun _ h=>h
   | true =>
    simp at hc;have h1:unseen fr (insS seen x.FName)<unseen fr seen0:=Nat.lt_of_lt_of_le (unseen_lt (fun s h=>mem_insS h) hf (by rw [hc.1]; exact hc.2) (by rw [hc.1]; exact self_insS _ _)) (unseen_le hs);obtain⟨r,h2,h3⟩:=hk f keys (insS seen x.FName) hf h1;exact⟨r,fun c hcc=>by show Option.bind _ _=_; rw [show k c f.FSels keys (insS seen x.FName)=_ from h2 c hcc]; rfl,fun s h=>h3 s (mem_insS h)⟩
  obtain⟨r1,h1,h2⟩:=key.bind (g:=fun c z=>Z31_q23 c x k r z.1 z.2) fun z hz=>ih z.1 z.2 fun s h=>hz s (hs s h);exact⟨r1,fun c hc=>by show Z31_q23 c x k (f::r) keys seen=_; rw [Z31_q23]; exact h1 c hc,h2⟩
theorem roots_loop {fr:Sl Z6}(k:Z1->Sl TSel->List Bs->List Bs->Option (List Bs×List Bs)) (seen0:List Bs) (l:List TSel)
  (hk:∀(f:Z6) keys seen,f∈fr.l->unseen fr seen<unseen fr seen0->Root fr (fun c=>k c f.FSels keys seen) seen)
  (hk2:∀(s:TSel) keys seen,s∈l->(∀x∈seen0,x∈seen)->Root fr (fun c=>k c s.FSels keys seen) seen) (keys seen:List Bs) (hs:∀s∈seen0,s∈seen):Root fr (fun c=>Z31_q3 c k l keys seen) seen:=by
 induction l generalizing keys seen with
 | nil=>exact Root.some fun _ h=>h
 | cons x r ih =>
  have ih:=ih fun s ks sn h=>hk2 s ks sn (List.mem_cons_of_mem _ h);have key:Root fr (fun c=>bif (decide (x.FKind=(3:Int))) then((k c x.FSels keys seen).bind fun x18=>some (x18.1,x18.2)) else(bif (decide (x.FKind=(2:Int))) then(Option.bind (Z31_q23 c x k c.Fq.FFrags.l keys seen) fun z23=>some (z23.1,z23.2)) else(bif (!(x.FAlias==([]:Bs))) then(some ((insS keys x.FAlias),seen)) else(some ((insS keys x.FName),seen))))) seen:=by
   cases decide (x.FKind=(3:Int)) with
   | true =>
    obtain⟨r,h2,h3⟩:=hk2 x keys seen List.mem_cons_self hs;exact⟨r,fun c hcc=>by show Option.bind _ _=_; rw [show k c x.FSels keys seen=_ from h2 c hcc]; rfl,h3⟩
   | false =>
    cases decide (x.FKind=(2:Int)) with
    | true =>
     obtain⟨r,h2,h3⟩:=roots_in x k seen0 fr.l (fun f hf=>hf) hk keys seen hs;exact⟨r,fun c hcc=>by show Option.bind (Z31_q23 c x k c.Fq.FFrags.l keys seen) _=_; rw [hcc,show Z31_q23 c x k fr.l keys seen=_ from h2 c hcc]; rfl,h3⟩
    | false =>
     cases !(x.FAlias==([]:Bs)) with
     | true=>exact Root.some (r:=(insS keys x.FAlias,seen)) fun _ h=>h
     | false=>exact Root.some (r:=(insS keys x.FName,seen)) fun _ h=>h
  obtain⟨r1,h1,h2⟩:=key.bind (g:=fun c z=>Z31_q3 c k r z.1 z.2) fun z hz=>ih z.1 z.2 fun s h=>hz s (hs s h);exact⟨r1,fun c hc=>by show Z31_q3 c k (x::r) keys seen=_; rw [Z31_q3]; exact h1 c hc,h2⟩
theorem roots_tot {fr:Sl Z6}(hfr:∀f∈fr.l,Sl.sz TSel.sz f.FSels<=1048576) (n:Nat):∀(l:Sl TSel) (keys seen:List Bs),Sl.sz TSel.sz l<=1048576->Sl.sz TSel.sz l+unseen fr seen*2097152<n->Root fr (fun c=>Z31_qn n c l keys seen) seen:=by
 induction n with
 | zero=>intro l keys seen _ h; omega
 | succ n ih =>
  intro l keys seen h1 h2;obtain⟨r,h3,h4⟩:=roots_loop (fr:=fr) (Z31_qn n) seen l.l (fun f ks sn hf hu=>ih _ _ _ (hfr f hf) (by have:=hfr f hf; omega))
   (fun s ks sn hs hsn=>ih _ _ _ (by have:=Sl.mem_le (f:=TSel.sz) hs; have:=s.sub_lt; omega) (by have:=Sl.mem_le (f:=TSel.sz) hs; have:=s.sub_lt; have:=unseen_le (fr:=fr) hsn; omega)) keys seen fun _ h=>h
  exact⟨r,fun c hc=>by show Z31_qn (n+1) c l keys seen=_; rw [Z31_qn]; rw [show Z31_q3 c (Z31_qn n) l.l keys seen=_ from h3 c hc]; rfl,h4⟩
def bare (fr:Sl Z6):Z1:=⟨⟨Sl.nil⟩,⟨Sl.nil,fr⟩,Sl.nil⟩
def keysX (fr:Sl Z6) (l:Sl TSel):List Bs:=((Z31_q (bare fr) l [] []).getD ([],[])).1
theorem roots_eq {fr:Sl Z6}(hfr:∀f∈fr.l,Sl.sz TSel.sz f.FSels<=1048576) (hl:fr.l.length<=1048576) (l:Sl TSel) (h:Sl.sz TSel.sz l<=1048576) (c:Z1) (hc:c.Fq.FFrags=fr):∃y,Z31_q c l [] []=some (keysX fr l,y):=by
 have hu:unseen fr []<=1048576:=Nat.le_trans (List.length_filter_le _ _) hl;obtain⟨r,h1,_⟩:=roots_tot hfr F0 l [] [] h (by rw [F0_eq]; omega);have e1:Z31_q c l [] []=some r:=h1 c hc;have e2:Z31_q (bare fr) l [] []=some r:=h1 _ rfl;exact⟨r.2,by rw [e1]; simp [keysX,e2]⟩
def M0:Nat:=2097152
def opX (d:TDoc) (fr:Sl Z6) (o:TOp):List Z4 :=
 flt ((((!(fnd d.FDefs.l (Z92_q o.FKind)).2)||(!decide ((fnd d.FDefs.l (Z92_q o.FKind)).1.FKind=(1:Int))))||((decide (o.FKind=(3:Int)))&&(!decide ((((seenM (keysX fr o.FSels)).length:Nat):Int)=(1:Int)))))) 30 o.FName++selsX M0 d o.FSels.l (Z92_q o.FKind) o.FName
def fragX (d:TDoc) (f:Z6):List Z4:=selsX M0 d f.FSels.l f.FOn f.FName
theorem sels_eff {d:TDoc}(hd:DefsOk d) (l:Sl TSel) (on_ at_:Bs) (h:Sl.sz TSel.sz l<=1048576) (h2:at_.length<=1048576):Eff d (fun c=>fields_checker_sels_q c l on_ at_) (selsX M0 d l.l on_ at_) :=
 (sels_tot hd F0).1 l on_ at_ M0 (by rw [F0_eq]; omega) h (by omega) (by unfold M0; omega)
theorem frags_eff {d:TDoc}(hd:DefsOk d) (l:List Z6) (hl:∀f∈l,f.sz<=1048576):Eff d (fun c=>Z23_q12 l c) (l.flatMap (fragX d)):=by
 induction l with
 | nil=>exact Eff.id
 | cons f r ih =>
  have h1:=hl f List.mem_cons_self;have h2:=f.sz_def; have h3:Bs.sz f.FName=f.FName.length+1:=rfl;refine Eff.of ((sels_eff hd f.FSels f.FOn f.FName (by omega) (by omega)).bind (ih fun y hy=>hl y (List.mem_cons_of_mem _ hy))) (by simp [fragX]) fun c hc=>?_;rw [Z23_q12]; rfl
theorem ops_eff {d:TDoc}(hd:DefsOk d){fr:Sl Z6}(hfr:∀f∈fr.l,Sl.sz TSel.sz f.FSels<=1048576) (hfl:fr.l.length<=1048576) (l:List TOp) (hl:∀f∈l,f.sz<=1048576) (c:Z1) (hc:c.Fd=d) (hq:c.Fq.FFrags=fr) (hb:c.Fout.l.length+(l.flatMap (opX d fr)).length<=4398046511104) :
  Z23_q24 d l c=some (addF c (l.flatMap (opX d fr))):=by
 induction l generalizing c with
 | nil=>rw [Z23_q24]; simp [addF_nil]
 | cons o r ih =>
  have h1:=hl o List.mem_cons_self;have h2:=o.sz_def; have h3:Bs.sz o.FName=o.FName.length+1:=rfl;simp only [List.flatMap_cons,List.length_append] at hb ⊢;have he:Eff d _ (opX d fr o):=(add_eff d ((((!(fnd d.FDefs.l (Z92_q o.FKind)).2)||(!decide ((fnd d.FDefs.l (Z92_q o.FKind)).1.FKind=(1:Int))))||((decide (o.FKind=(3:Int)))&&(!decide ((((seenM (keysX fr o.FSels)).length:Nat):Int)=(1:Int)))))) 30 o.FName).bind (sels_eff hd o.FSels (Z92_q o.FKind) o.FName (by omega) (by omega))
  obtain⟨y,hy⟩:=roots_eq hfr hfl o.FSels (by omega) c hq;have h4:=he c hc (by omega);dsimp only at h4;rw [Z23_q24];simp only [on,find_eq,hy,Option.bind_some];rw [<- Option.bind_assoc,h4,Option.bind_some,ih (fun y hy=>hl y (List.mem_cons_of_mem _ hy)) (addF c (opX d fr o)) hc hq (by simp only [addF,List.length_append]; omega),addF_add]
def checkX (d:TDoc) (q:Z9):List Z4:=q.FOps.l.flatMap (opX d q.FFrags)++q.FFrags.l.flatMap (fragX d)
theorem check_eq {d:TDoc}(hd:DefsOk d) (q:Z9) (hq:q.sz<=1048576) (hb:(checkX d q).length<=4398046511104):∃nl,Z23_q d q=some ⟨nl,checkX d q⟩:=by
 have hl:=q.lens;unfold checkX at *;simp only [List.length_append] at hb;have h1:=ops_eff hd (fr:=q.FFrags) (fun f hf=>by have:=Z9.frag_le hf; have:=f.sz_def; omega) (by omega) q.FOps.l (fun o ho=>by have:=Z9.op_le ho; omega) ⟨d,q,Sl.nil⟩ rfl rfl (by simp only [Sl.nil,List.length_nil]; omega);have h2:=frags_eff hd q.FFrags.l (fun f hf=>by have:=Z9.frag_le hf; omega) (addF ⟨d,q,Sl.nil⟩ (q.FOps.l.flatMap (opX d q.FFrags))) rfl (by simp only [addF,Sl.nil,List.nil_append]; omega)
 unfold Z23_q;rw [h1];simp only [Option.bind_some,on];rw [show Z23_q12 q.FFrags.l (addF ⟨d,q,Sl.nil⟩ (q.FOps.l.flatMap (opX d q.FFrags)))=_ from h2];exact⟨_,by simp [addF,Sl.nil]; rfl⟩
end Go.Proofs



namespace Go.Proofs
open Go Go.Ab
set_option maxRecDepth 100000 in
theorem knows14:Z46=some true:=by kernel_rfl
end Go.Proofs

namespace Go.Proofs
open Go Go.Ab
theorem cls_eq (x:Int):((((decide ((97:Int)<=x)&&decide (x<=(122:Int)))||(decide ((65:Int)<=x)&&decide (x<=(90:Int))))||(decide ((48:Int)<=x)&&decide (x<=(57:Int))))||decide (x=(95:Int)))=(Z52_q x||Z51_q x):=by
 unfold Z52_q Z51_q;rw [Bool.eq_iff_iff];simp only [Bool.or_eq_true,Bool.and_eq_true,decide_eq_true_eq];constructor
 ·rintro (((h|h)|h)|h)
  ·exact .inl (.inl (.inr h))
  ·exact .inl (.inl (.inl h))
  ·exact .inr h
  ·exact .inl (.inr h)
 ·rintro (((h|h)|h)|h)
  ·exact .inl (.inl (.inr h))
  ·exact .inl (.inl (.inl h))
  ·exact .inr h
  ·exact .inl (.inr h)
theorem nameAux:∀(l:List UInt8) (i:Nat),0<i->Z50_q10 l i=Z119_q12 l
 | [],_,_=>rfl
 | h::r,i,hi=>by
  have h0:decide (((i:Nat):Int)=0)=false:=decide_eq_false (by omega);rw [Z50_q10,Z119_q12,nameAux r (i+1) (by omega)];simp only [Ab.on,h0,cls_eq];cases Z52_q ((h.toNat:Nat):Int)
  ·simp only [Bool.not_false,Bool.and_self,cond_true,Bool.true_and,Bool.false_or]
  ·rfl
theorem letter_digit (x:Int) (h:Z52_q x=true):((decide ((48:Int)<=x))&&(decide (x<=(57:Int))))=false:=by
 unfold Z52_q at h;rw [Bool.and_eq_false_iff];simp only [Bool.or_eq_true,Bool.and_eq_true,decide_eq_true_eq] at h;by_cases h2:x<=57
 ·left; apply decide_eq_false; omega
 ·right; exact decide_eq_false h2
theorem name_eq (s:Bs):Z119_q s=some (Z50_q s):=by
 unfold Z119_q Z50_q;cases s with
 | nil=>rfl
 | cons h r =>
  have e0:((h::r:Bs)==[])=false:=rfl;have e1:decide ((((h::r:Bs).length:Nat):Int)<1)=false:=decide_eq_false (by simp only [List.length_cons]; omega);rw [e0,e1];simp only [Bool.false_or];cases decide ((64:Int)<(((h::r:Bs).length:Nat):Int))
  ·simp only [Bool.not_false,guardO,if_true,cond_false,Bool.true_and,Bool.false_or];rw [show ((h::r:Bs)[0]?)=some h from rfl];simp only [Option.bind_some];rw [Z50_q10,Z119_q12,nameAux r 1 (by omega)];simp only [Ab.on,cls_eq];generalize ((h.toNat:Nat):Int)=x;cases hl:Z52_q x
   ·have hd:Z51_q x=(decide ((48:Int)<=x)&&decide (x<=(57:Int))):=rfl;rw [hd];cases h4:decide ((48:Int)<=x)<;>cases h5:decide (x<=(57:Int))<;>simp [h5]
   ·have h9:=letter_digit x hl;cases h4:decide ((48:Int)<=x)<;>cases h5:decide (x<=(57:Int))<;>rw [h4,h5] at h9<;>simp [h5] at h9 ⊢<;>(cases Z119_q12 r<;>rfl)
  ·rfl
end Go.Proofs

namespace Go.Proofs
open Go Go.Ab
theorem cond_le {α:Type}{n:Nat}(c:Bool){a b:List α}(h1:a.length<=n) (h2:b.length<=n):(cond c a b).length<=n:=by cases c<;>assumption
theorem flt_le (b:Bool) (e:Int) (a:Bs):(flt b e a).length<=1:=by cases b<;>simp [flt]
theorem knownX_le (d:TDoc) (defs:Sl Z7) (all:Sl TArg) (st:Bool) (a:Bs) (l:List TArg) (i:Nat):(knownX d defs all st a l i).length<=l.length:=by
 induction l generalizing i with
 | nil=>simp [knownX]
 | cons x r ih =>
  have:=ih (i+1);rw [knownX];cases (!(fndI defs.l x.FName).2)||(Z33_q ⟨all.nl,all.l.take i⟩ x.FName).2 with
  | true=>have:=flt_le true 22 a; simp; omega
  | false=>have:=flt_le ((!fitsB d (fndI defs.l x.FName).1.FType x.FValue)||(st&&badV x.FValue)) 23 a; simp; omega
theorem missX_le (a:Bs) (x:Sl TArg) (l:List Z7):(missX a x l).length<=l.length:=by
 induction l with
 | nil=>simp [missX]
 | cons y r ih=>have:=flt_le (!(Z33_q x y.FName).2) 22 a; rw [missX]; simp; omega
theorem needX_le (a:Bs) (x:Sl TArg) (l:List Z7):(needX a x l).length<=l.length:=by
 induction l with
 | nil=>simp [needX]
 | cons y r ih=>have:=flt_le ((Z123_q y.FType&&!y.FHas)&&!(Z33_q x y.FName).2) 22 a; rw [needX]; simp; omega
theorem dirX_le (d:TDoc) (s:TSel) (t:TRef) (is:Bool) (a:Bs) (x:TDir) (i:Nat):(dirX d s t is a x i).length<=x.sz:=by
 have h:=x.sz_def; have h2:=Sl.len_lt (f:=TArg.sz) x.FArgs TArg.pos; have h3:=Bs.sz_pos x.FName;have h4:=knownX_le d (defsX ((!decide (s.FKind=2))&&!decide (s.FKind=3)) t is x) x.FArgs ((x.FName==[100,101,102,101,114])||(x.FName==[115,116,114,101,97,109])) a x.FArgs.l 0;have h5:=missX_le a x.FArgs (defsX ((!decide (s.FKind=2))&&!decide (s.FKind=3)) t is x).l;have h6:=(defsX_ok ((!decide (s.FKind=2))&&!decide (s.FKind=3)) t is x).1
 have h7:=flt_le true 29 a;unfold dirX;refine cond_le _ (by omega) ?_;simp only [List.length_append]; omega
theorem dirsX_le (d:TDoc) (s:TSel) (t:TRef) (is:Bool) (a:Bs) (l:List TDir) (i:Nat):(dirsX d s t is a l i).length<=(l.map TDir.sz).sum:=by
 induction l generalizing i with
 | nil=>simp [dirsX]
 | cons x r ih=>have:=ih (i+1); have:=dirX_le d s t is a x i; rw [dirsX]; simp; omega
theorem ownX_le {d:TDoc}(hd:DefsOk d) (s:TSel) (on_ a:Bs):(ownX d s on_ a).length<=1048579+s.FArgs.l.length+(s.FDirs.l.map TDir.sz).sum:=by
 have h1:=flt_le (Z120_q s.FAlias) 6 a;have h2:=flt_le ((!(typeX d on_ s.FName).2)&&(bif !(typeX d on_ s.FName).2 then Z86_q d on_ else false)) 20 a;have h3:=dirsX_le d s (typeX d on_ s.FName).1 (typeX d on_ s.FName).2 a s.FDirs.l 0;have h4:=knownX_le d (defX d s on_).FArgs s.FArgs false a s.FArgs.l 0;have h5:=needX_le a s.FArgs (defX d s on_).FArgs.l;have h6:=(defX_ok hd s on_).1;have h7:(leafX d s (typeX d on_ s.FName).1 a).length<=1:=flt_le _ _ _
 have h8:(bif (typeX d on_ s.FName).2 then leafX d s (typeX d on_ s.FName).1 a++(knownX d (defX d s on_).FArgs s.FArgs false a s.FArgs.l 0++needX a s.FArgs (defX d s on_).FArgs.l) else []).length<=1048577+s.FArgs.l.length:=by
  refine cond_le _ ?_ (by simp);simp only [List.length_append]; omega
 unfold ownX;simp only [List.length_append]; omega
theorem flatMap_le {α β:Type}{f:α->List β}{g:α->Nat}{l:List α}(h:∀x∈l,(f x).length<=g x*2097152):(l.flatMap f).length<=(l.map g).sum*2097152:=by
 induction l with
 | nil=>simp
 | cons x r ih =>
  have h1:=h x List.mem_cons_self; have h2:=ih fun y hy=>h y (List.mem_cons_of_mem _ hy);simp only [List.flatMap_cons,List.length_append,List.map_cons,List.sum_cons]; omega
theorem selX_le {d:TDoc}(hd:DefsOk d) (k:List TSel->Bs->Bs->List Z4) (on_ a:Bs) (s:TSel) (hk:∀on2 a2,(k s.FSels.l on2 a2).length<=(s.FSels.l.map TSel.sz).sum*2097152):(selX k d on_ a s).length<=s.sz*2097152:=by
 have h:=s.sz_def;have h1:Sl.sz TSel.sz s.FSels=1+(s.FSels.l.map TSel.sz).sum:=rfl;have h2:Sl.sz TDir.sz s.FDirs=1+(s.FDirs.l.map TDir.sz).sum:=rfl;have h3:=Sl.len_lt (f:=TArg.sz) s.FArgs TArg.pos;have h4:=dirsX_le d s ⟨[],Sl.nil⟩ false a s.FDirs.l 0;have h5:=ownX_le hd s on_ (placeX s a);have h6:=hk (bif !(s.FOn==[]) then s.FOn else on_) a;have h7:=hk (typeX d on_ s.FName).1.FName (placeX s a);unfold selX
 refine cond_le _ (by omega) (cond_le _ ?_ ?_)<;>simp only [List.length_append]<;>omega
theorem selsX_le {d:TDoc}(hd:DefsOk d) (n:Nat) (l:List TSel) (on_ a:Bs):(selsX n d l on_ a).length<=(l.map TSel.sz).sum*2097152:=by
 induction n generalizing l on_ a with
 | zero=>simp [selsX]
 | succ n ih=>rw [selsX]; exact flatMap_le fun s _=>selX_le hd _ on_ a s fun on2 a2=>ih _ _ _
theorem opX_le {d:TDoc}(hd:DefsOk d) (fr:Sl Z6) (o:TOp):(opX d fr o).length<=o.sz*2097152:=by
 have h:=o.sz_def;have h1:Sl.sz TSel.sz o.FSels=1+(o.FSels.l.map TSel.sz).sum:=rfl;have h2:=selsX_le hd M0 o.FSels.l (Z92_q o.FKind) o.FName;have h3:=flt_le ((((!(fnd d.FDefs.l (Z92_q o.FKind)).2)||(!decide ((fnd d.FDefs.l (Z92_q o.FKind)).1.FKind=(1:Int))))||((decide (o.FKind=(3:Int)))&&(!decide ((((seenM (keysX fr o.FSels)).length:Nat):Int)=(1:Int)))))) 30 o.FName;unfold opX;simp only [List.length_append]; omega
theorem fragX_le {d:TDoc}(hd:DefsOk d) (f:Z6):(fragX d f).length<=f.sz*2097152:=by
 have h:=f.sz_def;have h1:Sl.sz TSel.sz f.FSels=1+(f.FSels.l.map TSel.sz).sum:=rfl;unfold fragX;exact Nat.le_trans (selsX_le hd M0 f.FSels.l f.FOn f.FName) (by omega)
theorem checkX_le {d:TDoc}(hd:DefsOk d) (q:Z9) (hq:q.sz<=1048576):(q.FOps.l.flatMap (opX d q.FFrags)).length+(q.FFrags.l.flatMap (fragX d)).length<=2199023255552:=by
 have h:=q.sz_def;have h1:Sl.sz TOp.sz q.FOps=1+(q.FOps.l.map TOp.sz).sum:=rfl;have h2:Sl.sz Z6.sz q.FFrags=1+(q.FFrags.l.map Z6.sz).sum:=rfl;have h3:=flatMap_le (l:=q.FOps.l) (g:=TOp.sz) fun o _=>opX_le hd q.FFrags o;have h4:=flatMap_le (l:=q.FFrags.l) (g:=Z6.sz) fun o _=>fragX_le hd o;omega
theorem check_ok {d:TDoc}(hd:DefsOk d) (q:Z9) (hq:q.sz<=1048576):∃nl,Z23_q d q=some ⟨nl,checkX d q⟩ :=
 check_eq hd q hq (by have:=checkX_le hd q hq; unfold checkX; simp only [List.length_append]; omega)
theorem right_ok (d:TDoc) (q:Z9) (hd:d.sz<=1048576) (hq:q.sz<=1048576):Ok (Z47_q d q):=by
 unfold Z47_q;have h1:=Z84_ok d hd; have h2:=Z74_ok q hq; have h3:=Z66_ok d hd; have h4:=Z75_ok q hq
 (repeat' (first|exact Tot.some _|assumption|(with_reducible refine Tot.bind ?_ fun _ _=>?_)|(with_reducible refine Tot.guard (fun _=>?_) fun _ _ _=>?_)|(with_reducible refine Tot.cond (fun _=>?_) fun _=>?_)|(with_reducible refine Tot.on fun _ _=>?_)|split))
end Go.Proofs

namespace Go.Proofs
open Go Go.Ab
def Tk {C D:Type}(fx:C->D) (ln:C->Nat) (o:Option C) (c:C) (k:Nat):Prop:=∃c',o=some c'/\fx c'=fx c/\ln c'<=ln c+k
section
variable {C D:Type}{fx:C->D}{ln:C->Nat}{o:Option C}{c:C}{k m n:Nat}
theorem Tk.pure (c:C) (k:Nat):Tk fx ln (some c) c k:=⟨c,rfl,rfl,Nat.le_add_right _ _⟩
theorem Tk.bind {f:C->Option C}(h:Tk fx ln o c k) (hn:k+m<=n) (hf:∀c',fx c'=fx c->ln c'<=ln c+k->Tk fx ln (f c') c' m):Tk fx ln (o.bind f) c n:=by
 obtain⟨c1,e1,f1,l1⟩:=h;obtain⟨c2,e2,f2,l2⟩:=hf c1 f1 l1;exact⟨c2,by rw [e1]; exact e2,f2.trans f1,by omega⟩
theorem Tk.map (h:Tk fx ln o c k):Tk fx ln (o.bind fun x=>some x) c k:=by
 obtain⟨c1,e1,h1⟩:=h; exact⟨c1,by rw [e1]; rfl,h1⟩
theorem Tk.mono (h:Tk fx ln o c k) (hn:k<=n):Tk fx ln o c n:=by
 obtain⟨c1,e1,f1,l1⟩:=h; exact⟨c1,e1,f1,by omega⟩
theorem Tk.cond {b:Bool}{x y:Option C}(h1:b=true->Tk fx ln x c k) (h2:b=false->Tk fx ln y c k):Tk fx ln (bif b then x else y) c k:=by
 cases b
 ·exact h2 rfl
 ·exact h1 rfl
theorem Tk.bindT {α:Type}{p:Option α}{f:α->Option C}(hp:∃x,p=some x) (hf:∀x,p=some x->Tk fx ln (f x) c k):Tk fx ln (p.bind f) c k:=by
 obtain⟨x,e⟩:=hp; rw [e]; exact hf x e
theorem Tk.guard {α:Type}{b:Bool}{p:Option α}{d:α}{f:α->Option C}(hp:b=true->∃x,p=some x) (hf:∀x,Tk fx ln (f x) c k):Tk fx ln (guardO b p d f) c k:=by
 cases b
 ·exact hf d
 ·obtain⟨x,e⟩:=hp rfl; rw [e]; exact hf x
end
def unseenL (l:List Bs) (seen:List Bs):Nat:=(l.filter fun f=>!seen.contains f).length
theorem unseenL_le {l a b:List Bs}(h:∀s∈a,s∈b):unseenL l b<=unseenL l a:=filter_le fun x _ hp=>by
 simp at hp ⊢; exact fun h2=>hp (h _ h2)
theorem unseenL_lt {l a b:List Bs}(h:∀s∈a,s∈b){f:Bs}(hf:f∈l) (h1:f∉a) (h2:f∈b):unseenL l b<unseenL l a :=
 filter_lt (fun x _ hp=>by simp at hp ⊢; exact fun h2=>hp (h _ h2)) hf (by simpa using h2) (by simpa using h1)
theorem findS (s:Bs):∀l:List TDef,Z88_q7 s l=Sum.inl ()\/∃t∈l,Z88_q7 s l=Sum.inr (t,true)/\t.FName=s
 | []=>.inl rfl
 | a::r=>by
  rw [Z88_q7];simp only [Ab.on];cases h:(a.FName==s)
  ·rw [cond_false];rcases findS s r with h|⟨t,ht,e⟩
   ·exact .inl h
   ·exact .inr ⟨t,.tail _ ht,e⟩
  ·exact .inr ⟨a,.head _,rfl,eq_of_beq h⟩
theorem findS_mem {d:TDoc}{s:Bs}(h:(Z88_q d s).2=true):(Z88_q d s).1∈d.FDefs.l:=by
 unfold Z88_q at h ⊢;simp only [Ab.on] at h ⊢;rcases findS s d.FDefs.l with e|⟨t,ht,e,-⟩
 ·rw [e] at h; cases h
 ·rw [e]; exact ht
theorem loops_told (a1:TDef) (c:Z3):∀(n:Nat) (a0:TDef) (s:List Bs),unseenL (c.Fd.FDefs.l.map TDef.FName) s<n->∃b s',Z99_qn n a0 a1 c s=some (b,s')/\∀x∈s,x∈s'
 | 0,_,_,h=>by omega
 | n+1,a0,s,hn=>by
  have loop:∀(l:List Z7) (s:List Bs),unseenL (c.Fd.FDefs.l.map TDef.FName) s<=n->∃r,Z99_q7 a1 c (Z99_qn n) l s=some r/\match r with|Sum.inl s'=>∀x∈s,x∈s'|Sum.inr e=>∀x∈s,x∈e.2:=by
   intro l;induction l with
   | nil=>intro s _; exact⟨_,rfl,fun _ h=>h⟩
   | cons h r ih =>
    intro s hs;rw [Z99_q7];simp only [Ab.on];have hg:∃x:Int,guardO (!(!decide (((h.FType.FWraps.l.length:Nat):Int)=(1:Int)))) (h.FType.FWraps.l[0]?) (0:Int) (fun x=>some x)=some x:=by
     by_cases h1:h.FType.FWraps.l.length=1
     ·rw [show decide (((h.FType.FWraps.l.length:Nat):Int)=(1:Int))=true from decide_eq_true (by omega)];simp only [guardO,Bool.not_true,Bool.not_false,if_true];rw [List.getElem?_eq_getElem (show 0<h.FType.FWraps.l.length by omega)];exact⟨_,rfl⟩
     ·rw [show decide (((h.FType.FWraps.l.length:Nat):Int)=(1:Int))=false from decide_eq_false (by omega)];exact⟨_,rfl⟩
    have hgo:∀{K:Int->Option (List Bs ⊕ (Bool×List Bs))},(∀x,∃q,K x=some q/\match q with|Sum.inl s'=>∀x∈s,x∈s'|Sum.inr e=>∀x∈s,x∈e.2)->∃q,guardO (!(!decide (((h.FType.FWraps.l.length:Nat):Int)=(1:Int)))) (h.FType.FWraps.l[0]?) (0:Int) K=some q/\match q with|Sum.inl s'=>∀x∈s,x∈s'|Sum.inr e=>∀x∈s,x∈e.2:=by
     intro K hK;obtain⟨x,hx⟩:=hg;generalize h.FType.FWraps.l[0]?=p at hx ⊢;generalize (!(!decide (((h.FType.FWraps.l.length:Nat):Int)=(1:Int))))=b at hx ⊢;cases b
     ·exact hK 0
     ·cases p with
      | none=>cases hx
      | some y=>exact hK y
    refine hgo fun x20=>?_;cases (!decide (((h.FType.FWraps.l.length:Nat):Int)=(1:Int))||!decide (x20=(1:Int)))
    ·rw [cond_false];cases (h.FType.FName==a1.FName)
     ·rw [cond_false];cases hc:((Z88_q c.Fd h.FType.FName).2&&decide ((Z88_q c.Fd h.FType.FName).1.FKind=(5:Int)))&&!(s.contains (Z88_q c.Fd h.FType.FName).1.FName)
      ·rw [cond_false]; exact ih s hs
      ·rw [cond_true];simp only [Bool.and_eq_true,Bool.not_eq_true'] at hc;obtain⟨⟨hf,-⟩,hns⟩:=hc;have hm:=findS_mem hf;generalize (Z88_q c.Fd h.FType.FName).1=t at hm hns ⊢;have hsub:∀x∈s,x∈insS s t.FName:=fun x hx=>mem_insS hx;have hlt:=unseenL_lt (l:=c.Fd.FDefs.l.map TDef.FName) hsub (List.mem_map_of_mem hm) (by simpa using hns) (self_insS s t.FName);obtain⟨b,s',e,hs'⟩:=loops_told a1 c n t (insS s t.FName) (by omega)
       rw [e,Option.bind_some];cases b
       ·rw [cond_false];have hle:=unseenL_le (l:=c.Fd.FDefs.l.map TDef.FName) (a:=s) (b:=s') fun x hx=>hs' x (hsub x hx);obtain⟨q,hq,hq2⟩:=ih s' (by omega);refine⟨q,hq, ?_⟩;cases q with
        | inl s2=>exact fun x hx=>hq2 x (hs' x (hsub x hx))
        | inr e2=>exact fun x hx=>hq2 x (hs' x (hsub x hx))
       ·exact⟨_,rfl,fun x hx=>hs' x (hsub x hx)⟩
     ·exact⟨_,rfl,fun _ h=>h⟩
    ·rw [cond_true]; exact ih s hs
  rw [Z99_qn];obtain⟨q,e,hq⟩:=loop a0.FInputs.l s (by omega);rw [e,Option.bind_some];cases q with
  | inl s'=>exact⟨false,s',rfl,hq⟩
  | inr e2=>exact⟨e2.1,e2.2,rfl,hq⟩
theorem loops_top (c:Z3) (a1:TDef) (h:c.Fd.FDefs.l.length<=1048576):∃b,Z98_q c a1=some b:=by
 have hu:unseenL (c.Fd.FDefs.l.map TDef.FName) []<=c.Fd.FDefs.l.length:=by
  have:=List.length_filter_le (fun f=>!([]:List Bs).contains f) (c.Fd.FDefs.l.map TDef.FName)
  simpa [unseenL] using this
 obtain⟨b,s',e,-⟩:=loops_told a1 c F0 a1 [] (by rw [F0_eq]; omega);unfold Z98_q Z99_q;rw [e];exact⟨b,rfl⟩
abbrev SK (o:Option Z3) (c:Z3) (k:Nat):Prop:=Tk Z3.Fd (fun c=>c.Ffaults.l.length) o c k
theorem SKg {o:Option Z3}{c:Z3}{k:Nat}(h:SK o c k):∃c',o=some c'/\c'.Fd=c.Fd/\c'.Ffaults.l.length<=c.Ffaults.l.length+k:=h
theorem sadd {c:Z3}(h:c.Ffaults.l.length<=1000000000) (b:Bool) (e:Int) (s:Bs):SK (Z94_q c b e s) c 1:=by
 unfold Z94_q;refine Tk.cond (fun _=>?_) fun _=>Tk.pure c 1;rw [appC_ok (by decide) (by simp; omega),Option.bind_some];exact⟨_,rfl,rfl,by simp⟩
theorem sname {c:Z3}(h:c.Ffaults.l.length<=900000000) (n a:Bs) (m:List Bs):∃c',Z101_q c n a m=some (c',insS m n)/\c'.Fd=c.Fd/\c'.Ffaults.l.length<=c.Ffaults.l.length+2:=by
 unfold Z101_q;rw [name_eq,Option.bind_some];simp only [Ab.on];obtain⟨c1,e1,f1,l1⟩:=SKg (sadd (c:=c) (by omega) ((!Z50_q n)||bif !(!Z50_q n) then Z120_q n else false) 6 a);rw [e1,Option.bind_some];obtain⟨c2,e2,f2,l2⟩:=SKg (sadd (c:=c1) (by omega) (m.contains n) 7 a);rw [e2];exact⟨c2,rfl,f2.trans f1,by omega⟩
theorem styp {c:Z3}(h:c.Ffaults.l.length<=900000000) (n a:Bs) (k:Int):SK (Z102_q c n a k) c 1:=by
 unfold Z102_q;simp only [Ab.on];exact Tk.cond (fun _=>(sadd (by omega) _ _ _).map) fun _=>Tk.cond (fun _=>(sadd (by omega) _ _ _).map) fun _=>(sadd (by omega) _ _ _).map
theorem sinputs (a2 a3:Bs) (h2:a2.length<=4000000) (h3:a3.length<=4000000):∀(l:List Z7) (c:Z3) (m:List Bs),(∀x∈l,x.sz<=1048576)->c.Ffaults.l.length+3*l.length<=900000000->SK (Z97_q5 a2 a3 l c m) c (3*l.length)
 | [],c,_,_,_=>Tk.pure c _
 | x::r,c,m,hx,hb=>by
  have hs:=x.sz_def;have hz:=hx x (.head _);have hn:Bs.sz x.FName=x.FName.length+1:=rfl;simp only [List.length_cons] at hb ⊢;rw [Z97_q5];simp only [Ab.on];rw [catC_ok (by omega),Option.bind_some,catC_ok (by simp; omega),Option.bind_some];obtain⟨c1,e1,f1,l1⟩:=sname (c:=c) (by omega) x.FName ((a2++x.FName)++a3) m;rw [e1,Option.bind_some];obtain⟨c2,e2,f2,l2⟩:=SKg (styp (c:=c1) (by omega) x.FType.FName ((a2++x.FName)++a3) 1)
  rw [e2,Option.bind_some];obtain⟨c3,e3,f3,l3⟩:=SKg (sinputs a2 a3 h2 h3 r c2 (insS m x.FName) (fun y hy=>hx y (.tail _ hy)) (by omega));exact⟨c3,e3,f3.trans (f2.trans f1),by show c3.Ffaults.l.length<=c.Ffaults.l.length+_; omega⟩
end Go.Proofs

namespace Go.Proofs
open Go Go.Ab
theorem sinputs_top (c:Z3) (l:Sl Z7) (a2 a3:Bs) (h2:a2.length<=4000000) (h3:a3.length<=4000000) (hx:∀x∈l.l,x.sz<=1048576) (hb:c.Ffaults.l.length+3*l.l.length<=900000000):SK (Z97_q c l a2 a3) c (3*l.l.length):=by
 unfold Z97_q;exact(sinputs a2 a3 h2 h3 l.l c [] hx hb).map
theorem sfields (a1:TDef) (h1:a1.FName.length<=1048576):∀(l:List Z5) (c:Z3) (m:List Bs),(∀x∈l,x.sz<=1048576)->c.Ffaults.l.length+3*(l.map Z5.sz).sum<=900000000->SK (Z96_q6 a1 l c m) c (3*(l.map Z5.sz).sum)
 | [],c,_,_,_=>Tk.pure c _
 | x::r,c,m,hx,hb=>by
  have hs:=x.sz_def;have hz:=hx x (.head _);have hn:Bs.sz x.FName=x.FName.length+1:=rfl;have hl:=Sl.len_lt (f:=Z7.sz) x.FArgs Z7.pos;simp only [List.map_cons,List.sum_cons] at hb ⊢;rw [Z96_q6];simp only [Ab.on];rw [catC_ok (by simp; omega),Option.bind_some,catC_ok (by simp; omega),Option.bind_some];generalize hat:a1.FName++([46]:Bs)++x.FName=at_;have hal:at_.length<=2097154:=by rw [<- hat]; simp; omega
  obtain⟨c1,e1,f1,l1⟩:=sname (c:=c) (by omega) x.FName at_ m;rw [e1,Option.bind_some];obtain⟨c2,e2,f2,l2⟩:=SKg (styp (c:=c1) (by omega) x.FType.FName at_ 0);rw [e2,Option.bind_some,catC_ok (by simp; omega),Option.bind_some];obtain⟨c3,e3,f3,l3⟩:=SKg (sinputs_top c2 x.FArgs (at_++([40]:Bs)) ([41]:Bs) (by simp; omega) (by simp) (fun y hy=>by have:=Sl.mem_le (f:=Z7.sz) hy; omega) (by omega));rw [e3,Option.bind_some]
  obtain⟨c4,e4,f4,l4⟩:=SKg (sfields a1 h1 r c3 (insS m x.FName) (fun y hy=>hx y (.tail _ hy)) (by omega));exact⟨c4,e4,f4.trans (f3.trans (f2.trans f1)),by show c4.Ffaults.l.length<=c.Ffaults.l.length+_; omega⟩
theorem smembers (a1:TDef) (h1:a1.FName.length<=1048576):∀(l:List Z8) (c:Z3) (m:List Bs),(∀x∈l,x.sz<=1048576)->c.Ffaults.l.length+2*l.length<=900000000->SK (Z100_q6 a1 l c m) c (2*l.length)
 | [],c,_,_,_=>Tk.pure c _
 | x::r,c,m,hx,hb=>by
  have hs:=x.sz_def;have hz:=hx x (.head _);have hn:Bs.sz x.FName=x.FName.length+1:=rfl;simp only [List.length_cons] at hb ⊢;rw [Z100_q6];simp only [Ab.on];rw [catC_ok (by simp; omega),Option.bind_some,catC_ok (by simp; omega),Option.bind_some];refine Tk.guard (fun _=>⟨_,name_eq _⟩) fun x21=>?_;obtain⟨c1,e1,f1,l1⟩:=SKg (sadd (c:=c) (by omega) ((((((x.FName==([116,114,117,101]:Bs)))||((x.FName==([102,97,108,115,101]:Bs))))||((x.FName==([110,117,108,108]:Bs))))||(!x21))||bif !(((((x.FName==([116,114,117,101]:Bs)))||((x.FName==([102,97,108,115,101]:Bs))))||((x.FName==([110,117,108,108]:Bs))))||(!x21)) then Z120_q x.FName else false) 6 (a1.FName++([46]:Bs)++x.FName))
  rw [e1,Option.bind_some];obtain⟨c2,e2,f2,l2⟩:=SKg (sadd (c:=c1) (by omega) (m.contains x.FName) 7 (a1.FName++([46]:Bs)++x.FName));rw [e2,Option.bind_some];obtain⟨c3,e3,f3,l3⟩:=SKg (smembers a1 h1 r c2 (insS m x.FName) (fun y hy=>hx y (.tail _ hy)) (by omega));exact⟨c3,e3,f3.trans (f2.trans f1),by show c3.Ffaults.l.length<=c.Ffaults.l.length+_; omega⟩
end Go.Proofs

namespace Go.Proofs
open Go Go.Ab
def TkP (o:Option (Z3×List Bs)) (c:Z3) (k:Nat):Prop:=∃c' m',o=some (c',m')/\c'.Fd=c.Fd/\c'.Ffaults.l.length<=c.Ffaults.l.length+k
theorem TkP.bind {o:Option Z3}{f:Z3->Option (Z3×List Bs)}{c:Z3}{k m n:Nat}(h:SK o c k) (hn:k+m<=n) (hf:∀c',c'.Fd=c.Fd->c'.Ffaults.l.length<=c.Ffaults.l.length+k->TkP (f c') c' m):TkP (o.bind f) c n:=by
 obtain⟨c1,e1,f1,l1⟩:=SKg h;obtain⟨c2,m2,e2,f2,l2⟩:=hf c1 f1 l1;exact⟨c2,m2,by rw [e1]; exact e2,f2.trans f1,by omega⟩
theorem TkP.guard {α:Type}{b:Bool}{p:Option α}{d:α}{f:α->Option (Z3×List Bs)}{c:Z3}{k:Nat}(hp:b=true->∃x,p=some x) (hf:∀x,TkP (f x) c k):TkP (guardO b p d f) c k:=by
 cases b
 ·exact hf d
 ·obtain⟨x,e⟩:=hp rfl; rw [e]; exact hf x
theorem TkP.cond {b:Bool}{x y:Option (Z3×List Bs)}{c:Z3}{k:Nat}(h1:TkP x c k) (h2:TkP y c k):TkP (bif b then x else y) c k:=by
 cases b
 ·exact h2
 ·exact h1
theorem TkP.pair {o:Option Z3}{c:Z3}{k n:Nat}(h:SK o c k) (hn:k<=n) (M:List Bs):TkP (o.bind fun x=>some (x,M)) c n:=by
 obtain⟨c1,e1,f1,l1⟩:=SKg h;exact⟨c1,M,by rw [e1]; rfl,f1,by omega⟩
theorem drop_nextS {α:Type}{l r:List α}{i:Nat}{x:α}(h:l.drop i=x::r):l.drop (i+1)=r/\l[i]?=some x:=by
 refine⟨?_,by have:=congrArg (fun t=>t[0]?) h; simpa using this⟩;have:=congrArg (List.drop 1) h
 simpa [List.drop_drop] using this
theorem sdef {d:TDoc}{t:TDef}{i:Nat}(ht:d.FDefs.l[i]?=some t) (hz:t.sz<=1048576) (hdl:d.FDefs.l.length<=1048576) (c:Z3) (hd:c.Fd=d) (m:List Bs) (hb:c.Ffaults.l.length+(5+3*t.sz)<=900000000):TkP (Z95_q c (i:Int) m) c (5+3*t.sz):=by
 have hs:=t.sz_def;have hn:Bs.sz t.FName=t.FName.length+1:=rfl;have hf:(t.FFields.l.map Z5.sz).sum+1=Sl.sz Z5.sz t.FFields:=by unfold Sl.sz; omega
 have hm:=Sl.len_lt (f:=Z8.sz) t.FMembers Z8.pos;have hi:=Sl.len_lt (f:=Z7.sz) t.FInputs Z7.pos;unfold Z95_q;have hidx:idxC c.Fd.FDefs.l (i:Int)=some t:=by rw [hd]; unfold idxC; rw [if_pos (by simp),Int.toNat_natCast,ht]
 rw [hidx,Option.bind_some,name_eq,Option.bind_some];simp only [Ab.on];refine TkP.bind (k:=1) (m:=4+3*t.sz) (sadd (by omega) _ _ _) (by omega) fun c1 f1 l1=>?_;refine TkP.bind (k:=1) (m:=3+3*t.sz) (sadd (by omega) _ _ _) (by omega) fun c2 f2 l2=>?_;refine TkP.bind (k:=1) (m:=2+3*t.sz) (sadd (by omega) _ _ _) (by omega) fun c3 f3 l3=>?_;refine TkP.bind (k:=1) (m:=1+3*t.sz) (sadd (by omega) _ _ _) (by omega) fun c4 f4 l4=>?_
 refine TkP.guard (fun _=>loops_top c4 t (by rw [f4,f3,f2,f1,hd]; exact hdl)) fun x20=>?_;refine TkP.bind (k:=1) (m:=3*t.sz) (sadd (by omega) _ _ _) (by omega) fun c5 f5 l5=>?_;refine TkP.cond ?_ (TkP.cond ?_ (TkP.cond ?_ ⟨c5,_,rfl,rfl,by omega⟩))
 ·refine TkP.pair (k:=3*(t.FFields.l.map Z5.sz).sum) ?_ (by omega) _;unfold Z96_q;exact(sfields t (by omega) t.FFields.l c5 [] (fun y hy=>by have:=Sl.mem_le (f:=Z5.sz) hy; omega) (by omega)).map
 ·refine TkP.pair (k:=2*t.FMembers.l.length) ?_ (by omega) _;unfold Z100_q;exact(smembers t (by omega) t.FMembers.l c5 [] (fun y hy=>by have:=Sl.mem_le (f:=Z8.sz) hy; omega) (by omega)).map
 ·rw [catC_ok (by simp; omega),Option.bind_some];exact TkP.pair (sinputs_top c5 t.FInputs _ _ (by simp; omega) (by simp) (fun y hy=>by have:=Sl.mem_le (f:=Z7.sz) hy; omega) (by omega)) (by omega) _
theorem scheck_loop {d:TDoc}(hz:∀t∈d.FDefs.l,t.sz<=1048576) (hdl:d.FDefs.l.length<=1048576):∀(l:List TDef) (i:Nat) (c:Z3) (m:List Bs),d.FDefs.l.drop i=l->c.Fd=d->c.Ffaults.l.length+(5*l.length+3*(l.map TDef.sz).sum)<=900000000->SK (Z85_q20 l i c m) c (5*l.length+3*(l.map TDef.sz).sum)
 | [],i,c,m,_,_,_=>Tk.pure c _
 | t::r,i,c,m,hl,hd,hb=>by
  obtain⟨t1,t2⟩:=drop_nextS hl;simp only [List.length_cons,List.map_cons,List.sum_cons] at hb ⊢;rw [Z85_q20];obtain⟨c1,m1,e1,f1,l1⟩:=sdef t2 (hz t (List.mem_of_getElem? t2)) hdl c hd m (by omega);rw [e1,Option.bind_some];obtain⟨c2,e2,f2,l2⟩:=SKg (scheck_loop hz hdl r (i+1) c1 m1 t1 (f1.trans hd) (by omega));exact⟨c2,e2,f2.trans f1,by show c2.Ffaults.l.length<=c.Ffaults.l.length+_; omega⟩
theorem schema_check_tot {d:TDoc}(hd:d.sz<=1048576) (b:Bool):∃l,Z85_q d b=some l:=by
 have h1:=d.sz_def;have h2:Sl.sz TDef.sz d.FDefs=1+(d.FDefs.l.map TDef.sz).sum:=rfl;have h3:=Sl.len_lt (f:=TDef.sz) d.FDefs TDef.pos;obtain⟨c,e,f,l⟩:=SKg (scheck_loop (d:=d) (fun t ht=>by have:=Sl.mem_le (f:=TDef.sz) ht; omega) (by omega) d.FDefs.l 0 (Z3.mk d (Sl.nil:Sl Z4)) [] rfl rfl (by show 0+_<=_; omega));have l:c.Ffaults.l.length<=0+(5*d.FDefs.l.length+3*(d.FDefs.l.map TDef.sz).sum):=l;unfold Z85_q
 rw [e,Option.bind_some];simp only [Ab.on];cases (b&&!(Z88_q d ([81,117,101,114,121]:Bs)).2)
 ·exact⟨_,rfl⟩
 ·obtain⟨c2,e2,_⟩:=SKg (sadd (c:=c) (by omega) true 30 ([81,117,101,114,121]:Bs));rw [cond_true,e2];exact⟨_,rfl⟩
end Go.Proofs

namespace Go.Proofs
open Go Go.Ab
theorem filtO_told {f:Bs->Option Bool}:∀{l:List Bs},(∀s∈l,∃b,f s=some b)->∃r,filtO f l=some r
 | [],_=>⟨_,rfl⟩
 | s::l,h=>by
  obtain⟨b,e⟩:=h s (.head _);obtain⟨r,e2⟩:=filtO_told (l:=l) fun x hx=>h x (.tail _ hx);exact⟨_,by rw [filtO,e,Option.bind_some,e2]; rfl⟩
theorem poss_keep (d:TDoc) (a:Bs) (x:TDef×Bool) (s:Bs):∃b,Z16_k36 d a x s=some b:=by
 unfold Z16_k36;rw [Z88_eq,Option.bind_some];generalize (!((!(Z88_q d s).2)||(!decide ((Z88_q d s).1.FKind=(1:Int))))&&(decide (x.1.FKind=(2:Int))))=g;have fin:∀b:Bool,∃r,(bif (((!(Z88_q d s).2)||(!decide ((Z88_q d s).1.FKind=(1:Int))))||((decide (x.1.FKind=(2:Int)))&&(!b))) then(some false) else(some true))=some r:=fun b=>by
  cases (((!(Z88_q d s).2)||(!decide ((Z88_q d s).1.FKind=(1:Int))))||((decide (x.1.FKind=(2:Int)))&&(!b)))
  ·exact⟨_,rfl⟩
  ·exact⟨_,rfl⟩
 cases g
 ·exact fin false
 ·simp only [guardO,if_true];rw [Z22_eq,Option.bind_some];exact fin _
theorem poss_out (d:TDoc) (h:d.FDefs.l.length<=1048576):∀(n:Nat) (o:Sl Bs) (s:Nat) (l:List Bs),s<=d.FDefs.l.length->d.FDefs.l.length<s+n->o.l.length+(d.FDefs.l.length-s)<=2097152->∃r,Z16_l17 d n o s l=some r/\r.l.length<=2097152
 | 0,_,_,_,h1,h2,_=>by omega
 | n+1,o,s,l,h1,h2,h3=>by
  rw [Z16_l17];by_cases hs:s<d.FDefs.l.length
  ·rw [show decide (((s:Nat):Int)<((d.FDefs.l.length:Nat):Int))=true from decide_eq_true (by omega),cond_true,List.getElem?_eq_getElem hs,Option.bind_some];unfold Z16_j24;cases l.contains d.FDefs.l[s].FName
   ·rw [cond_false]; exact poss_out d h n o (s+1) l (by omega) (by omega) (by omega)
   ·rw [cond_true,appC_ok (by decide) (by simp; omega),Option.bind_some];exact poss_out d h n _ (s+1) _ (by omega) (by omega) (by simp; omega)
  ·rw [show decide (((s:Nat):Int)<((d.FDefs.l.length:Nat):Int))=false from decide_eq_false (by omega),cond_false];exact⟨o,rfl,by omega⟩
theorem poss_j6 (d:TDoc) (h:d.FDefs.l.length<=1048576) (a:Bs) (x:TDef×Bool) (l:List Bs):∃r,Z16_j6 d a x l=some r/\r.l.length<=2097152:=by
 unfold Z16_j6;obtain⟨r,e⟩:=filtO_told (l:=l) fun s _=>poss_keep d a x s;rw [e];unfold Z16_j8;exact poss_out d h _ _ 0 _ (Nat.zero_le _) (by omega) (by simp only [Sl.nil,List.length_nil]; omega)
theorem poss_faces (d:TDoc) (h:d.FDefs.l.length<=1048576) (a:Bs) (x:TDef×Bool):∀(n s:Nat) (l:List Bs),s<=d.FDefs.l.length->d.FDefs.l.length<s+n->∃r,Z16_l50 d a x n s l=some r/\r.l.length<=2097152
 | 0,_,_,h1,h2=>by omega
 | n+1,s,l,h1,h2=>by
  rw [Z16_l50];by_cases hs:s<d.FDefs.l.length
  ·rw [show decide (((s:Nat):Int)<((d.FDefs.l.length:Nat):Int))=true from decide_eq_true (by omega),cond_true,List.getElem?_eq_getElem hs,Option.bind_some,Z22_eq,Option.bind_some];unfold Z16_j56;cases Z22_q d.FDefs.l[s] a
   ·exact poss_faces d h a x n (s+1) _ (by omega) (by omega)
   ·exact poss_faces d h a x n (s+1) _ (by omega) (by omega)
  ·rw [show decide (((s:Nat):Int)<((d.FDefs.l.length:Nat):Int))=false from decide_eq_false (by omega),cond_false];exact poss_j6 d h a x l
theorem poss_union (d:TDoc) (h:d.FDefs.l.length<=1048576) (a:Bs) (x:TDef×Bool):∀(n s:Nat) (l:List Bs),s<=x.1.FMembers.l.length->x.1.FMembers.l.length<s+n->∃r,Z16_l67 d a x n s l=some r/\r.l.length<=2097152
 | 0,_,_,h1,h2=>by omega
 | n+1,s,l,h1,h2=>by
  rw [Z16_l67];by_cases hs:s<x.1.FMembers.l.length
  ·rw [show decide (((s:Nat):Int)<((x.1.FMembers.l.length:Nat):Int))=true from decide_eq_true (by omega),cond_true,List.getElem?_eq_getElem hs,Option.bind_some];exact poss_union d h a x n (s+1) _ (by omega) (by omega)
  ·rw [show decide (((s:Nat):Int)<((x.1.FMembers.l.length:Nat):Int))=false from decide_eq_false (by omega),cond_false];exact poss_j6 d h a x l
theorem poss_told {d:TDoc}(h:d.FDefs.l.length<=1048576) (a:Bs):∃r,Z16_q d a=some r/\r.l.length<=2097152:=by
 unfold Z16_q Z16;rw [Z88_eq,Option.bind_some];cases decide ((Z88_q d a).1.FKind=(1:Int))
 ·rw [cond_false];cases decide ((Z88_q d a).1.FKind=(2:Int))
  ·rw [cond_false];cases decide ((Z88_q d a).1.FKind=(3:Int))
   ·exact poss_j6 d h a _ _
   ·exact poss_union d h a _ _ 0 _ (Nat.zero_le _) (by omega)
  ·exact poss_faces d h a _ _ 0 _ (Nat.zero_le _) (by omega)
 ·exact poss_j6 d h a _ _
end Go.Proofs

namespace Go.Proofs
open Go Go.Ab
theorem large_in:∀(l:List Z5) (s:Int),0<=s->s+((l.map Z5.sz).sum:Nat)<=1073741824->∃r,Z84_q36 l s=some r/\s<=r/\r<=s+((l.map Z5.sz).sum:Nat)/\∀f∈l,s+(f.FArgs.l.length:Nat)<=r
 | [],s,_,_=>⟨s,rfl,by omega,by simp,fun _ h=>by cases h⟩
 | f::l,s,h0,hb=>by
  simp only [List.map_cons,List.sum_cons] at hb ⊢;have h1:=f.sz_def;have h2:=Sl.len_le (f:=Z7.sz) f.FArgs (fun x=>Z7.pos x);have h3:=Sl.len_le (f:=TDir.sz) f.FDirs (fun x=>TDir.pos x);rw [Z84_q36];simp only [Ab.on];rw [addC_ok (by omega),Option.bind_some,addC_ok (by omega),Option.bind_some];obtain⟨r,e,a1,a2,a3⟩:=large_in l (s+(((f.FArgs.l.length:Nat):Int)+((f.FDirs.l.length:Nat):Int))) (by omega) (by omega)
  refine⟨r,e,by omega,by omega,fun g hg=>?_⟩;rcases List.mem_cons.1 hg with rfl|hg
  ·omega
  ·have:=a3 g hg; omega
def Sm (x:TDef):Prop:=x.FFields.l.length<=1000/\x.FMembers.l.length<=1000/\x.FImplements.l.length<=1000/\x.FInputs.l.length<=1000/\∀f∈x.FFields.l,f.FArgs.l.length<=1000
theorem large_out:∀(l:List TDef) (s:Int),0<=s->s+2*((l.map TDef.sz).sum:Nat)<=1073741824->∃r,Z84_q12 l s=some r/\s<=r/\(r<=1000->∀x∈l,Sm x)
 | [],s,_,_=>⟨s,rfl,by omega,fun _ _ h=>by cases h⟩
 | x::l,s,h0,hb=>by
  simp only [List.map_cons,List.sum_cons] at hb;have h1:=x.sz_def;have h2:=Sl.len_le (f:=Z5.sz) x.FFields (fun x=>Z5.pos x);have h3:=Sl.len_le (f:=Z8.sz) x.FMembers (fun x=>Z8.pos x);have h4:=Sl.len_le (f:=Z7.sz) x.FInputs (fun x=>Z7.pos x);have h5:=Sl.len_le (f:=TDir.sz) x.FDirs (fun x=>TDir.pos x);have h6:=Sl.len_le (f:=Bs.sz) x.FImplements (fun x=>Bs.sz_pos x);have h7:Sl.sz Z5.sz x.FFields=1+(x.FFields.l.map Z5.sz).sum:=rfl
  rw [Z84_q12];simp only [Ab.on];rw [addC_ok (by omega),Option.bind_some,addC_ok (by omega),Option.bind_some,addC_ok (by omega),Option.bind_some,addC_ok (by omega),Option.bind_some,addC_ok (by omega),Option.bind_some,addC_ok (by omega),Option.bind_some];obtain⟨z,e,a1,a2,a3⟩:=large_in x.FFields.l _ (show 0<=s+((((((1:Int)+((x.FFields.l.length:Nat):Int))+((x.FMembers.l.length:Nat):Int))+((x.FInputs.l.length:Nat):Int))+((x.FDirs.l.length:Nat):Int))+((x.FImplements.l.length:Nat):Int)) by omega) (by omega)
  rw [e,Option.bind_some];obtain⟨r,e2,b1,b2⟩:=large_out l z (by omega) (by omega);refine⟨r,e2,by omega,fun hr y hy=>?_⟩;rcases List.mem_cons.1 hy with rfl|hy
  ·exact⟨by omega,by omega,by omega,by omega,fun f hf=>by have:=a3 f hf; omega⟩
  ·exact b2 hr y hy
theorem large10 {d:TDoc}(hd:d.sz<=1048576):∃b,Z84_q d=some b/\(b=false->d.FDefs.l.length<=70/\∀x∈d.FDefs.l,Sm x):=by
 have h1:=d.sz_def;have h2:Sl.sz TDef.sz d.FDefs=1+(d.FDefs.l.map TDef.sz).sum:=rfl;unfold Z84_q;by_cases h:d.FDefs.l.length<=70
 ·rw [show decide ((70:Int)<((d.FDefs.l.length:Nat):Int))=false from decide_eq_false (by omega),cond_false];obtain⟨r,e,b1,b2⟩:=large_out d.FDefs.l 0 (by omega) (by omega);rw [e,Option.bind_some];simp only [Ab.on];exact⟨_,rfl,fun hb=>⟨h,b2 (by have:=of_decide_eq_false hb; omega)⟩⟩
 ·rw [show decide ((70:Int)<((d.FDefs.l.length:Nat):Int))=true from decide_eq_true (by omega)];exact⟨true,rfl,fun h=>by cases h⟩
end Go.Proofs

namespace Go.Proofs
open Go Go.Ab
theorem Bs.len_le (s:Bs):s.length<=Bs.sz s:=Nat.le_succ _
theorem is_told {d:TDoc}(h:d.FDefs.l.length<=1048576) (a b:Bs):∃v,Z13_q d a b=some v:=by
 unfold Z13_q;obtain⟨r,e,-⟩:=poss_told h b;rw [e]; exact⟨_,rfl⟩
theorem bar_lt {t:TRef}(h:nnW t.FWraps.l=true):(bar t).FWraps.l.length<t.FWraps.l.length:=by
 have:=head_one h;simp only [bar,barS,h,cond_true,List.length_drop]; omega
theorem sub_told {d:TDoc}(hd:d.FDefs.l.length<=1048576):∀(n:Nat) (a b:TRef),SOk a.FWraps->SOk b.FWraps->a.FWraps.l.length+b.FWraps.l.length<n->∃v,Z17_qn n d a b=some v
 | 0,_,_,_,_,h=>by omega
 | n+1,a,b,ha,hb,hn=>by
  rw [Z17_qn];simp only [Ab.on,isNonNull_eq,nullable_eq ha,nullable_eq hb,inner_eq ha,inner_eq hb,Option.bind_some];cases hbn:nnW b.FWraps.l
  ·rw [cond_false];cases han:nnW a.FWraps.l
   ·rw [cond_false];obtain⟨z,hz⟩:=is_told hd a.FName b.FName;have last:∃v,(guardO (!((a.FName==b.FName))) (Z13_q d a.FName b.FName) false fun x28=>some (((a.FName==b.FName))||x28))=some v:=by
     rw [hz];cases (a.FName==b.FName)<;>exact⟨_,rfl⟩
    cases hla:liW (barS a.FWraps).l
    ·cases hlb:liW (barS b.FWraps).l
     ·exact last
     ·exact⟨_,rfl⟩
    ·cases hlb:liW (barS b.FWraps).l
     ·exact⟨_,rfl⟩
     ·have h1:=inner_lt hla;have h2:=inner_lt hlb;obtain⟨v,hv⟩:=sub_told hd n (innerT a) (innerT b) (innerT_ok ha) (innerT_ok hb) (by omega);simp only [cond_true,Bool.or_self,Bool.and_self,guardO,if_true,hv,Option.bind_some];exact⟨_,rfl⟩
   ·have h1:=bar_lt han;obtain⟨v,hv⟩:=sub_told hd n (bar a) b (barS_ok ha) hb (by omega);rw [cond_true,hv]; exact⟨_,rfl⟩
  ·rw [cond_true];cases han:nnW a.FWraps.l
   ·exact⟨_,rfl⟩
   ·have h1:=bar_lt han;have h2:=bar_lt hbn;obtain⟨v,hv⟩:=sub_told hd n (bar a) (bar b) (barS_ok ha) (barS_ok hb) (by omega);simp only [guardO,if_true,hv,Option.bind_some];exact⟨_,rfl⟩
theorem sub_top {d:TDoc}(hd:d.FDefs.l.length<=1048576){a b:TRef}(ha:SOk a.FWraps) (hb:SOk b.FWraps):∃v,Z17_q d a b=some v:=by
 have h1:=ha.2;have h2:=hb.2;exact sub_told hd F0 a b ha hb (by rw [F0_eq]; omega)
theorem equal_told (c:Sl Int):∀(l:List Int) (i:Nat),l.length+i<=c.l.length->∃o,Z111_q12 c l i=some o
 | [],_,_=>⟨_,rfl⟩
 | x::r,i,h=>by
  simp only [List.length_cons] at h;rw [Z111_q12];simp only [Ab.on];rw [List.getElem?_eq_getElem (show i<c.l.length by omega),Option.bind_some];cases (!decide (x=c.l[i]'(by omega)))
  ·exact equal_told c r (i+1) (by omega)
  ·exact⟨_,rfl⟩
theorem same_told (a b:TRef):∃v,Z127_q a b=some v:=by
 have h2:∃v,Z111_q a.FWraps b.FWraps=some v:=by
  unfold Z111_q;by_cases h:a.FWraps.l.length=b.FWraps.l.length
  ·rw [show (!decide (((a.FWraps.l.length:Nat):Int)=((b.FWraps.l.length:Nat):Int)))=false by rw [decide_eq_true (show ((a.FWraps.l.length:Nat):Int)=((b.FWraps.l.length:Nat):Int) by omega)]; rfl,cond_false];obtain⟨o,ho⟩:=equal_told b.FWraps a.FWraps.l 0 (by omega);rw [ho];cases o<;>exact⟨_,rfl⟩
  ·rw [show (!decide (((a.FWraps.l.length:Nat):Int)=((b.FWraps.l.length:Nat):Int)))=true by rw [decide_eq_false (show ¬((a.FWraps.l.length:Nat):Int)=((b.FWraps.l.length:Nat):Int) by omega)]; rfl];exact⟨_,rfl⟩
 obtain⟨v,hv⟩:=h2;unfold Z127_q;rw [hv];cases (a.FName==b.FName)<;>exact⟨_,rfl⟩
abbrev FK (o:Option Z0) (c:Z0) (k:Nat):Prop:=Tk Z0.Fd (fun c=>c.Fout.l.length) o c k
theorem fadd {c:Z0}(h:c.Fout.l.length<=1000000000000) (e:Int) (s:Bs):FK (Z18_q c e s) c 1:=by
 unfold Z18_q;rw [appC_ok (by decide) (by simp; omega),Option.bind_some];exact⟨_,rfl,rfl,by simp⟩
theorem in_args {f:Z5}(h:f.sz<=1048576):(∀x∈f.FArgs.l,x.FName.length<=1048576)/\f.FName.length<=1048576:=by
 have h1:=f.sz_def;have h2:=Bs.len_le f.FName;refine⟨fun x hx=>?_,by omega⟩;have h5:=Sl.mem_le (f:=Z7.sz) hx;have h6:=x.sz_def;have h7:=Bs.len_le x.FName;omega
theorem more22 {c:Z0}(h:c.Fout.l.length<=1000000000000){p n:Bs}(hp:p.length<=10000000) (hn:n.length<=1048576):FK ((catC p ([40]:Bs)).bind fun x66=>(catC x66 n).bind fun x67=>(catC x67 ([41]:Bs)).bind fun x68=>(Z18_q c (22:Int) x68).bind fun x69=>some x69) c 1:=by
 rw [catC_ok (by simp; omega),Option.bind_some,catC_ok (by simp; omega),Option.bind_some,catC_ok (by simp; omega),Option.bind_some];exact(fadd h _ _).map
theorem face51 {p:Bs}(hp:p.length<=10000000) (x:Z5×Bool):∀(l:List Z7) (c:Z0),(∀y∈l,y.FName.length<=1048576)->c.Fout.l.length+l.length<=1000000000000->FK (Z19_q51 p x l c) c l.length
 | [],c,_,_=>Tk.pure c _
 | y::l,c,hy,hs=>by
  have hn:=hy y (.head _);simp only [List.length_cons] at hs ⊢;rw [Z19_q51];simp only [Ab.on];refine Tk.guard (fun _=>same_told _ _) fun b=>?_;refine Tk.bind (k:=1) (m:=l.length) (Tk.cond (fun _=>more22 (by omega) hp hn) fun _=>Tk.pure c 1) (by omega) fun c' _ hc=>?_;exact face51 hp x l c' (fun z hz=>hy z (.tail _ hz)) (by omega)
theorem face30 (f:Z5){p:Bs}(hp:p.length<=10000000):∀(l:List Z7) (c:Z0),(∀y∈l,y.FName.length<=1048576)->c.Fout.l.length+l.length<=1000000000000->FK (Z19_q30 f p l c) c l.length
 | [],c,_,_=>Tk.pure c _
 | y::l,c,hy,hs=>by
  have hn:=hy y (.head _);simp only [List.length_cons] at hs ⊢;rw [Z19_q30];simp only [Ab.on];refine Tk.bind (k:=1) (m:=l.length) (Tk.cond (fun _=>more22 (by omega) hp hn) fun _=>Tk.pure c 1) (by omega) fun c' _ hc=>?_;exact face30 f hp l c' (fun z hz=>hy z (.tail _ hz)) (by omega)
def AllSm (d:TDoc):Prop:=∀x∈d.FDefs.l,x.sz<=1048576/\Sm x
theorem fndF_in (l:List Z5) (s:Bs):(fndF l s).1∈l\/(fndF l s).1=Z5.zero:=by
 unfold fndF;cases h:l.find? (fun t=>t.FName==s) with
 | none=>exact .inr rfl
 | some t=>exact .inl (List.mem_of_find?_eq_some h)
def FldOk (f:Z5):Prop:=f.sz<=1048576/\f.FArgs.l.length<=1000/\SOk f.FType.FWraps
theorem face4 {d:TDoc}(hd:d.FDefs.l.length<=1048576){a:TDef}(ha:a.FName.length<=1048576) (hf:∀f∈a.FFields.l,FldOk f):∀(l:List Z5) (c:Z0),c.Fd=d->(∀f∈l,FldOk f)->c.Fout.l.length+2001*l.length<=1000000000000->FK (Z19_q4 a l c) c (2001*l.length)
 | [],c,_,_,_=>Tk.pure c _
 | f::l,c,hc,hl,hs=>by
  obtain⟨g1,g2⟩:=in_args (hl f (.head _)).1;obtain⟨-,g3,g4⟩:=hl f (.head _);have hx:(∀y∈(fndF a.FFields.l f.FName).1.FArgs.l,y.FName.length<=1048576)/\(fndF a.FFields.l f.FName).1.FArgs.l.length<=1000/\SOk (fndF a.FFields.l f.FName).1.FType.FWraps:=by
   rcases fndF_in a.FFields.l f.FName with h|h
   ·obtain⟨k1,k2,k3⟩:=hf _ h;exact⟨(in_args k1).1,k2,k3⟩
   ·rw [h]; exact⟨fun _ h=>(by cases h),Nat.zero_le _,fun _=>rfl,by decide⟩
  simp only [List.length_cons] at hs ⊢;rw [Z19_q4];simp only [Ab.on];rw [catC_ok (by simp; omega),Option.bind_some,catC_ok (by simp; omega),Option.bind_some,fieldOf_eq];have hp:(a.FName++([46]:Bs)++f.FName).length<=10000000:=by simp; omega
  generalize a.FName++([46]:Bs)++f.FName=p at hp;refine Tk.bind (k:=2001) (m:=2001*l.length) (Tk.cond (fun _=>((fadd (by omega) _ _).map).mono (by omega)) fun _=>?_) (by omega) fun c' e' hc'=>?_
  ·refine Tk.bindT (sub_top (by rw [hc]; exact hd) hx.2.2 g4) fun v _=>?_;refine Tk.bind (k:=1) (m:=2000) (Tk.cond (fun _=>(fadd (by omega) _ _).map) fun _=>Tk.pure c 1) (by decide) fun c1 _ h1=>?_;refine Tk.bind (k:=1000) (m:=1000) ((face51 hp _ f.FArgs.l c1 g1 (by omega)).mono g3) (by decide) fun c2 _ h2=>?_;exact((face30 f hp _ c2 hx.1 (by have:=hx.2.1; omega)).mono hx.2.1).map
  ·exact face4 hd ha hf l c' (e'.trans hc) (fun z hz=>hl z (.tail _ hz)) (by omega)
theorem fields_fok {d:TDoc}(h:AllSm d) (hd:DefsOk d){x:TDef}(hx:x∈d.FDefs.l):∀f∈x.FFields.l,FldOk f:=fun f hf=>by
 obtain⟨h1,h2⟩:=h x hx;have h3:=Sl.mem_le (f:=Z5.sz) hf;have h4:=x.sz_def;exact⟨by omega,h2.2.2.2.2 f hf,((hd x hx).2.2.1 f hf).1⟩
theorem found_fok {d:TDoc}(h:AllSm d) (hd:DefsOk d) (n:Bs):(∀f∈(fnd d.FDefs.l n).1.FFields.l,FldOk f)/\(fnd d.FDefs.l n).1.FFields.l.length<=1000:=by
 rcases fnd_mem d.FDefs.l n with e|e
 ·rw [e]; exact⟨fun _ h=>(by cases h),Nat.zero_le _⟩
 ·exact⟨fields_fok h hd e,(h _ e).2.1⟩
theorem fobj {d:TDoc}(hl:d.FDefs.l.length<=1048576) (h:AllSm d) (hd:DefsOk d){a:TDef}(ha:a∈d.FDefs.l):∀(l:List Bs) (i:Nat) (c:Z0),c.Fd=d->c.Fout.l.length+2001000*l.length<=1000000000000->FK (Z21_q4 a l i c) c (2001000*l.length)
 | [],_,c,_,_=>Tk.pure c _
 | s::l,i,c,hc,hs=>by
  have hn:a.FName.length<=1048576:=by
   have h1:=(h a ha).1;have h2:=a.sz_def;have h3:=Bs.len_le a.FName;omega
  simp only [List.length_cons] at hs ⊢;rw [Z21_q4];simp only [Ab.on];refine Tk.bind (k:=2001000) (m:=2001000*l.length) (Tk.cond (fun _=>((fadd (by omega) _ _).map).mono (by omega)) fun _=>?_) (by omega) fun c' e' hc'=>?_
  ·obtain⟨k1,k2⟩:=found_fok h hd s;unfold Z19_q;rw [hc,find_eq];refine Tk.map ?_;refine((face4 hl hn (fields_fok h hd ha) _ c hc k1 (by omega)).map).mono (by omega)
  ·exact fobj hl h hd ha l (i+1) c' (e'.trans hc) (by omega)
theorem funi {a:TDef}(ha:a.FName.length<=1048576):∀(l:List Z8) (i:Nat) (c:Z0),(∀m∈l,m.FName.length<=1048576)->c.Fout.l.length+l.length<=1000000000000->FK (Z11_q28 a l i c) c l.length
 | [],_,c,_,_=>Tk.pure c _
 | m::l,i,c,hm,hs=>by
  have hn:=hm m (.head _);simp only [List.length_cons] at hs ⊢;rw [Z11_q28];simp only [Ab.on];refine Tk.bind (k:=1) (m:=l.length) (Tk.cond (fun _=>?_) fun _=>Tk.pure c 1) (by omega) fun c' e' hc'=>?_
  ·rw [catC_ok (by simp; omega),Option.bind_some,catC_ok (by simp; omega),Option.bind_some];exact(fadd (by omega) _ _).map
  ·exact funi ha l (i+1) c' (fun z hz=>hm z (.tail _ hz)) (by omega)
theorem faces10 {d:TDoc}(hl:d.FDefs.l.length<=1048576) (h:AllSm d) (hd:DefsOk d):∀(l:List TDef) (c:Z0),(∀x∈l,x∈d.FDefs.l)->c.Fd=d->c.Fout.l.length+2001000000*l.length<=1000000000000->FK (Z11_q10 l c) c (2001000000*l.length)
 | [],c,_,_,_=>Tk.pure c _
 | a::l,c,hm,hc,hs=>by
  have ha:=hm a (.head _);obtain⟨h1,h2⟩:=h a ha;have h3:=a.sz_def;have h4:=Bs.len_le a.FName;simp only [List.length_cons] at hs ⊢;rw [Z11_q10];simp only [Ab.on];refine Tk.bind (k:=2001000000) (m:=2001000000*l.length) (Tk.cond (fun _=>?_) fun _=>Tk.cond (fun _=>?_) fun _=>Tk.pure c _) (by omega) fun c' e' hc'=>?_
  ·have h5:=h2.2.2.1;unfold Z21_q;refine Tk.map ?_;exact((fobj hl h hd ha _ 0 c hc (by omega)).map).mono (by omega)
  ·have h5:=h2.2.1;refine((funi (by omega) a.FMembers.l 0 c (fun m hm=>?_) (by omega)).map).mono (by omega);have h5:=Sl.mem_le (f:=Z8.sz) hm;have h6:=m.sz_def;have h7:=Bs.len_le m.FName;omega
  ·exact faces10 hl h hd l c' (fun z hz=>hm z (.tail _ hz)) (e'.trans hc) (by omega)
theorem faces_told {d:TDoc}(hz:d.sz<=1048576) (hd:DefsOk d) (h:d.FDefs.l.length<=70/\∀x∈d.FDefs.l,Sm x):∃r,Z11_q d=some r:=by
 have hA:AllSm d:=fun x hx=>by
  have h1:=d.sz_def;have h5:=Sl.mem_le (f:=TDef.sz) hx;exact⟨by omega,h.2 x hx⟩
 unfold Z11_q;obtain⟨c,e,-⟩:=faces10 (d:=d) (by omega) hA hd d.FDefs.l (Z0.mk d (Sl.nil:Sl Z4)) (fun _ h=>h) rfl (by show 0+2001000000*d.FDefs.l.length<=_; have:=h.1; omega);rw [e];exact⟨_,rfl⟩
end Go.Proofs

namespace Go.Proofs
open Go Go.Ab
def Ps {A C D:Type}(fx:C->D) (ln:C->Nat) (pr:A->C) (o:Option A) (c:C) (P:Prop):Prop:=∀a,o=some a->fx (pr a)=fx c/\ln c<=ln (pr a)/\(ln (pr a)=ln c->P)
section
variable {A B C D:Type}{fx:C->D}{ln:C->Nat}{pr:A->C}{pb:B->C}{o:Option A}{c:C}{P Q R:Prop}
theorem Ps.pure {a:A}(h:pr a=c) (hp:P):Ps fx ln pr (some a) c P:=fun x e=>by cases e; rw [h]; exact⟨rfl,Nat.le_refl _,fun _=>hp⟩
theorem Ps.bind {f:A->Option B}(h:Ps fx ln pr o c P) (hr:P->Q->R) (hf:∀a,o=some a->fx (pr a)=fx c->Ps fx ln pb (f a) (pr a) Q):Ps fx ln pb (o.bind f) c R:=fun b e=>by
 cases ho:o with
 | none=>rw [ho] at e; cases e
 | some a =>
  rw [ho] at e;obtain⟨h1,h2,h3⟩:=h a ho;obtain⟨g1,g2,g3⟩:=hf a ho h1 b e;exact⟨g1.trans h1,Nat.le_trans h2 g2,fun x=>hr (h3 (by omega)) (g3 (by omega))⟩
theorem Ps.any {X:Type}{p:Option X}{f:X->Option A}(hf:∀x,p=some x->Ps fx ln pr (f x) c P):Ps fx ln pr (p.bind f) c P:=fun a e=>by
 cases hp:p with
 | none=>rw [hp] at e; cases e
 | some x=>rw [hp] at e; exact hf x hp a e
theorem Ps.guard {X:Type}{b:Bool}{p:Option X}{d:X}{f:X->Option A}(hf:∀x,Ps fx ln pr (f x) c P):Ps fx ln pr (guardO b p d f) c P:=by
 cases b
 ·exact hf d
 ·exact Ps.any fun x _=>hf x
theorem Ps.cond {b:Bool}{x y:Option A}(h1:b=true->Ps fx ln pr x c P) (h2:b=false->Ps fx ln pr y c P):Ps fx ln pr (bif b then x else y) c P:=by
 cases b
 ·exact h2 rfl
 ·exact h1 rfl
end
theorem len_appC {α:Type}{z:Nat}{s r x:Sl α}(h:appC z s r=some x):x.l.length=s.l.length+r.l.length:=by rw [(appC_some h).1]; simp
abbrev SP (o:Option Z3) (c:Z3) (P:Prop):Prop:=Ps Z3.Fd (fun c=>c.Ffaults.l.length) id o c P
abbrev SPp (o:Option (Z3×List Bs)) (c:Z3) (P:Prop):Prop:=Ps Z3.Fd (fun c=>c.Ffaults.l.length) Prod.fst o c P
theorem paddS (c:Z3) (b:Bool) (e:Int) (s:Bs):SP (Z94_q c b e s) c (b=false):=by
 unfold Z94_q;cases b
 ·exact Ps.pure rfl rfl
 ·rw [cond_true];intro a ha;cases h:appC 24 c.Ffaults ⟨false,[Z4.mk e s]⟩ with
  | none=>rw [h] at ha; cases ha
  | some v =>
   have hv:=len_appC h;rw [h] at ha; cases ha;simp only [List.length_singleton] at hv;exact⟨rfl,by show c.Ffaults.l.length<=v.l.length; omega,fun e=>absurd (show v.l.length=c.Ffaults.l.length from e) (by omega)⟩
theorem pname (c:Z3) (n a:Bs) (m:List Bs):SPp (Z101_q c n a m) c True:=by
 unfold Z101_q;refine Ps.any fun x _=>?_;simp only [Ab.on];refine Ps.bind (paddS _ _ _ _) (Q:=True) (fun _ _=>trivial) fun c1 _ _=>?_;refine Ps.bind (paddS _ _ _ _) (Q:=True) (fun _ _=>trivial) fun c2 _ _=>?_;exact Ps.pure rfl trivial
def OutOk (d:TDoc) (n:Bs):Prop:=Z93_q n=true\/((Z88_q d n).2=true/\Z103_q d n≠5)
def InOk (d:TDoc) (n:Bs):Prop:=Z90_q d n=true
theorem ptyp (c:Z3) (n a:Bs) (k:Int):SP (Z102_q c n a k) c ((k=0->OutOk c.Fd n)/\(k≠0->InOk c.Fd n)):=by
 unfold Z102_q;simp only [Ab.on];refine Ps.cond (fun _=>?_) fun h1=>Ps.cond (fun h2=>?_) fun h2=>?_
 ·exact Ps.bind (paddS _ _ _ _) (Q:=True) (fun h _=>by cases h) fun c1 _ _=>Ps.pure rfl trivial
 ·have hk:=of_decide_eq_true h2;refine Ps.bind (paddS _ _ _ _) (Q:=True) (fun h _=>⟨fun _=>?_,fun h3=>absurd hk h3⟩) fun c1 _ _=>Ps.pure rfl trivial;unfold OutOk
  revert h h1
  cases Z93_q n
  ·cases (Z88_q c.Fd n).2
   ·intro h1 _; simp at h1
   ·intro _ h; right; simpa using h
  ·exact fun _ _=>.inl rfl
 ·have hk:=of_decide_eq_false h2;refine Ps.bind (paddS _ _ _ _) (Q:=True) (fun h _=>⟨fun h3=>absurd h3 hk,fun _=>?_⟩) fun c1 _ _=>Ps.pure rfl trivial;unfold InOk; simpa using h
theorem pinputs (a2 a3:Bs):∀(l:List Z7) (c:Z3) (m:List Bs),SP (Z97_q5 a2 a3 l c m) c (∀x∈l,InOk c.Fd x.FType.FName)
 | [],c,m=>Ps.pure rfl fun _ h=>by cases h
 | x::r,c,m=>by
  rw [Z97_q5];simp only [Ab.on];refine Ps.any fun y _=>Ps.any fun z _=>?_;refine Ps.bind (pname _ _ _ _) (Q:=∀y∈x::r,InOk c.Fd y.FType.FName) (fun _ h=>h) fun c1 _ f1=>?_;refine Ps.bind (ptyp _ _ _ _) (Q:=∀y∈r,InOk c.Fd y.FType.FName) (fun h h2 y hy=>?_) fun c2 _ f2=>?_
  ·rcases List.mem_cons.1 hy with rfl|hy
   ·have:=h.2 (by decide); rw [f1] at this; exact this
   ·exact h2 y hy
  ·have:=pinputs a2 a3 r c2 c1.2;rw [show c2.Fd=c.Fd from f2.trans f1] at this;exact this
theorem pfields (a1:TDef):∀(l:List Z5) (c:Z3) (m:List Bs),SP (Z96_q6 a1 l c m) c (∀x∈l,OutOk c.Fd x.FType.FName)
 | [],c,m=>Ps.pure rfl fun _ h=>by cases h
 | x::r,c,m=>by
  rw [Z96_q6];simp only [Ab.on];refine Ps.any fun y _=>Ps.any fun z _=>?_;refine Ps.bind (pname _ _ _ _) (Q:=∀y∈x::r,OutOk c.Fd y.FType.FName) (fun _ h=>h) fun c1 _ f1=>?_;refine Ps.bind (ptyp _ _ _ _) (Q:=∀y∈r,OutOk c.Fd y.FType.FName) (fun h h2 y hy=>?_) fun c2 _ f2=>?_
  ·rcases List.mem_cons.1 hy with rfl|hy
   ·have:=h.1 rfl; rw [f1] at this; exact this
   ·exact h2 y hy
  ·refine Ps.any fun w _=>?_;unfold Z97_q;refine Ps.bind (Ps.bind (pinputs _ _ _ _ _) (fun _ h=>h) fun c4 _ _=>Ps.pure rfl trivial) (Q:=∀y∈r,OutOk c.Fd y.FType.FName) (fun _ h=>h) fun c3 _ f3=>?_;have:=pfields a1 r c3 c1.2;rw [show c3.Fd=c.Fd from f3.trans (f2.trans f1)] at this;exact this
theorem pmembers (a1:TDef):∀(l:List Z8) (c:Z3) (m:List Bs),SP (Z100_q6 a1 l c m) c True
 | [],c,m=>Ps.pure rfl trivial
 | x::r,c,m=>by
  rw [Z100_q6];simp only [Ab.on];refine Ps.any fun y _=>Ps.any fun z _=>Ps.guard fun w=>?_;refine Ps.bind (paddS _ _ _ _) (Q:=True) (fun _ _=>trivial) fun c1 _ _=>?_;refine Ps.bind (paddS _ _ _ _) (Q:=True) (fun _ _=>trivial) fun c2 _ _=>?_;exact pmembers a1 r c2 _
def DefSaid (d:TDoc) (t:TDef):Prop:=t.FKind=1\/t.FKind=2->∀f∈t.FFields.l,OutOk d f.FType.FName
theorem pdef {d:TDoc}{t:TDef}{i:Nat}(ht:d.FDefs.l[i]?=some t) (c:Z3) (hd:c.Fd=d) (m:List Bs):SPp (Z95_q c (i:Int) m) c (DefSaid d t):=by
 unfold Z95_q;have hidx:idxC c.Fd.FDefs.l (i:Int)=some t:=by rw [hd]; unfold idxC; rw [if_pos (by simp),Int.toNat_natCast,ht]
 rw [hidx,Option.bind_some];simp only [Ab.on];refine Ps.any fun y _=>?_;refine Ps.bind (paddS _ _ _ _) (Q:=DefSaid d t) (fun _ h=>h) fun c1 _ f1=>?_;refine Ps.bind (paddS _ _ _ _) (Q:=DefSaid d t) (fun _ h=>h) fun c2 _ f2=>?_;refine Ps.bind (paddS _ _ _ _) (Q:=DefSaid d t) (fun _ h=>h) fun c3 _ f3=>?_;refine Ps.bind (paddS _ _ _ _) (Q:=DefSaid d t) (fun _ h=>h) fun c4 _ f4=>?_;refine Ps.guard fun w=>?_
 refine Ps.bind (paddS _ _ _ _) (Q:=DefSaid d t) (fun _ h=>h) fun c5 _ f5=>?_;have hd5:c5.Fd=d:=f5.trans (f4.trans (f3.trans (f2.trans (f1.trans hd))));refine Ps.cond (fun hk=>?_) fun hk=>?_
 ·unfold Z96_q;refine Ps.bind (Ps.bind (pfields _ _ _ _) (Q:=True) (fun h _=>h) fun c6 _ _=>Ps.pure rfl trivial) (Q:=True) (fun h _=>?_) fun c7 _ _=>Ps.pure rfl trivial;intro _ f hf;have:=h f hf;rw [hd5] at this;exact this
 ·have hs:DefSaid d t:=by
   intro h;rcases h with h|h<;>simp [h] at hk
  refine Ps.cond (fun _=>?_) fun _=>Ps.cond (fun _=>?_) fun _=>Ps.pure rfl hs
  ·unfold Z100_q;exact Ps.bind (Ps.bind (pmembers _ _ _ _) (Q:=True) (fun h _=>h) fun c6 _ _=>Ps.pure rfl trivial) (Q:=True) (fun _ _=>hs) fun c7 _ _=>Ps.pure rfl trivial
  ·refine Ps.any fun z _=>?_;unfold Z97_q;exact Ps.bind (Ps.bind (pinputs _ _ _ _ _) (Q:=True) (fun h _=>trivial) fun c6 _ _=>Ps.pure rfl trivial) (Q:=True) (fun _ _=>hs) fun c7 _ _=>Ps.pure rfl trivial
theorem pcheck {d:TDoc}:∀(l:List TDef) (i:Nat) (c:Z3) (m:List Bs),d.FDefs.l.drop i=l->c.Fd=d->SP (Z85_q20 l i c m) c (∀t∈l,DefSaid d t)
 | [],i,c,m,_,_=>Ps.pure rfl fun _ h=>by cases h
 | t::r,i,c,m,hl,hd=>by
  obtain⟨t1,t2⟩:=drop_nextS hl;rw [Z85_q20];refine Ps.bind (pdef t2 c hd m) (Q:=∀t∈r,DefSaid d t) (fun h h2 y hy=>?_) fun c1 _ f1=>?_
  ·rcases List.mem_cons.1 hy with rfl|hy
   ·exact h
   ·exact h2 y hy
  ·exact pcheck r (i+1) c1.1 c1.2 t1 (f1.trans hd)
theorem schema_said {d:TDoc}{b:Bool}{l:Sl Z4}(h:Z85_q d b=some l) (h0:l.l=[]):∀t∈d.FDefs.l,DefSaid d t:=by
 unfold Z85_q at h;cases e:Z85_q20 d.FDefs.l 0 (Z3.mk d (Sl.nil:Sl Z4)) [] with
 | none=>rw [e] at h; cases h
 | some c =>
  obtain⟨_,_,h3⟩:=pcheck (d:=d) d.FDefs.l 0 _ [] rfl rfl c e;refine h3 ?_;show c.Ffaults.l.length=0;rw [e,Option.bind_some] at h;simp only [Ab.on] at h;have key:SP (bif b&&!(Z88_q d ([81,117,101,114,121]:Bs)).2 then((Z94_q c true (30:Int) ([81,117,101,114,121]:Bs)).bind fun x17=>some x17) else(some c)) c True:=by
   refine Ps.cond (fun _=>?_) fun _=>Ps.pure rfl trivial;exact Ps.bind (paddS _ _ _ _) (Q:=True) (fun _ _=>trivial) fun c1 _ _=>Ps.pure rfl trivial
  revert key h
  generalize (bif b&&!(Z88_q d ([81,117,101,114,121]:Bs)).2 then((Z94_q c true (30:Int) ([81,117,101,114,121]:Bs)).bind fun x17=>some x17) else(some c))=o;intro h key;cases o with
  | none=>cases h
  | some v =>
   obtain⟨_,k2,_⟩:=key v rfl;have:v.Ffaults=l:=Option.some.inj h;have k2:c.Ffaults.l.length<=v.Ffaults.l.length:=k2;rw [this,h0] at k2
   simpa using k2
end Go.Proofs

namespace Go.Proofs
open Go Go.Ab
theorem overlap_told {d:TDoc}(h:d.FDefs.l.length<=1048576) (a b:Bs):∃v,Z14_q d a b=some v:=by
 unfold Z14_q;obtain⟨r,e,-⟩:=poss_told h b;obtain⟨r2,e2,-⟩:=poss_told h a;rw [e,Option.bind_some,e2]; exact⟨_,rfl⟩
abbrev GK (o:Option Z2) (c:Z2) (k:Nat):Prop:=Tk Z2.Fd (fun c=>c.Fout.l.length) o c k
theorem GKg {o:Option Z2}{c:Z2}{k:Nat}(h:GK o c k):∃c',o=some c'/\c'.Fd=c.Fd/\c'.Fout.l.length<=c.Fout.l.length+k:=h
theorem gadd {c:Z2}(h:c.Fout.l.length<=1000000000) (b:Bool) (e:Int) (s:Bs):GK (Z39_q c b e s) c 1:=by
 unfold Z39_q;refine Tk.cond (fun _=>?_) fun _=>Tk.pure c 1;rw [appC_ok (by decide) (by simp; omega),Option.bind_some];exact⟨_,rfl,rfl,by simp⟩
theorem apart_told {c:Z2}(h:c.Fd.FDefs.l.length<=1048576) (a b:Bs):∃v,Z40_q c a b=some v:=by
 unfold Z40_q;obtain⟨v,e⟩:=overlap_told h a b;rw [e];simp only [Ab.on];cases Z86_q c.Fd a<;>exact⟨_,rfl⟩
theorem sel_len (x:TSel):x.FAlias.length+x.FName.length+(x.FSels.l.map TSel.sz).sum+4<=x.sz:=by
 have h:=x.sz_def;have h1:Bs.sz x.FAlias=x.FAlias.length+1:=rfl;have h2:Bs.sz x.FName=x.FName.length+1:=rfl;have h3:Sl.sz TSel.sz x.FSels=1+(x.FSels.l.map TSel.sz).sum:=rfl;omega
theorem gsels:∀(n:Nat) (l:Sl TSel) (on_ at_:Bs) (c:Z2),(l.l.map TSel.sz).sum<n->at_.length+2*(l.l.map TSel.sz).sum<=100000000->c.Fd.FDefs.l.length<=1048576->c.Fout.l.length+2*(l.l.map TSel.sz).sum<=100000000->GK (Z41_qn n c l on_ at_) c (2*(l.l.map TSel.sz).sum)
 | 0,_,_,_,_,h,_,_,_=>by omega
 | n+1,l,on_,at_,c,hn,ha,hd,hb=>by
  have loop:∀(t:List TSel) (c:Z2),(t.map TSel.sz).sum<=n->at_.length+2*(t.map TSel.sz).sum<=100000000->c.Fd.FDefs.l.length<=1048576->c.Fout.l.length+2*(t.map TSel.sz).sum<=100000000->GK (Z41_q3 on_ at_ (Z41_qn n) t c) c (2*(t.map TSel.sz).sum):=by
   intro t;induction t with
   | nil=>intro c _ _ _ _; exact Tk.pure c _
   | cons x r ih =>
    intro c ht ha2 hd2 hb2;simp only [List.map_cons,List.sum_cons] at ht ha2 hb2 ⊢;have hx:=sel_len x;rw [Z41_q3];simp only [Ab.on];refine Tk.bind (k:=2*x.sz) (m:=2*(r.map TSel.sz).sum) ?_ (by omega) fun c' e' hc'=>ih c' (by omega) (by omega) (by rw [e']; exact hd2) (by omega);refine Tk.cond (fun _=>?_) fun _=>Tk.cond (fun _=>?_) fun _=>?_
    ·refine Tk.bind (k:=1) (m:=1) (gadd (by omega) _ _ _) (by omega) fun c1 e1 h1=>?_;refine Tk.guard (fun _=>apart_told (by rw [e1]; exact hd2) _ _) fun v=>?_;exact(gadd (by omega) _ _ _).map
    ·have sub:∀(b:Bs) (c1:Z2),c1.Fd=c.Fd->c1.Fout.l.length<=c.Fout.l.length+2->GK ((Z41_qn n c1 x.FSels b at_).bind fun x29=>some x29) c1 (2*(x.FSels.l.map TSel.sz).sum):=fun b c1 e1 h1 =>
      (gsels n x.FSels b at_ c1 (by omega) (by omega) (by rw [e1]; exact hd2) (by omega)).map
     cases (!(x.FOn==([]:Bs)))
     ·exact(sub on_ c rfl (by omega)).mono (by omega)
     ·rw [cond_true];obtain⟨c1,e1,f1,h1⟩:=GKg (gadd (c:=c) (by omega) (!Z86_q c.Fd x.FOn) 24 at_);rw [e1,Option.bind_some];obtain⟨v,hv⟩:=apart_told (c:=c1) (by rw [f1]; exact hd2) on_ x.FOn;have:∀w:Bool,GK ((((Z39_q c1 (Z86_q c.Fd x.FOn&&w) (25:Int) at_).bind fun x38=>some (x.FOn,x38)).bind fun z26=>(Z41_qn n z26.2 x.FSels z26.1 at_).bind fun x29=>some x29)) c (2*x.sz):=by
       intro w;obtain⟨c2,e2,f2,h2⟩:=GKg (gadd (c:=c1) (by omega) (Z86_q c.Fd x.FOn&&w) 25 at_);rw [e2];obtain⟨c3,e3,f3,h3⟩:=GKg (sub x.FOn c2 (f2.trans f1) (by omega));exact⟨c3,e3,f3.trans (f2.trans f1),by show c3.Fout.l.length<=c.Fout.l.length+2*x.sz; omega⟩
      rw [hv];cases hc:Z86_q c.Fd x.FOn
      ·have:=this false; rw [hc] at this; exact this
      ·have:=this v; rw [hc] at this; exact this
    ·have hk:(bif (x.FAlias==([]:Bs)) then x.FName else x.FAlias).length<=x.FAlias.length+x.FName.length:=by
      cases (x.FAlias==([]:Bs))<;>simp
     generalize (bif (x.FAlias==([]:Bs)) then x.FName else x.FAlias)=key at hk;rw [catC_ok (by simp; omega),Option.bind_some,catC_ok (by simp; omega),Option.bind_some];exact((gsels n x.FSels _ _ c (by omega) (by simp; omega) hd2 (by omega)).map).mono (by omega)
  rw [Z41_qn];exact(loop l.l c (by omega) ha hd hb).map
def fndG (l:List Z6) (s:Bs):Z6×Bool:=match l.find? (fun t=>t.FName==s) with|some t=>(t,true)|none=>(Z6.zero,false)
theorem ffindAux (l:List Z6) (s:Bs):Z38_q7 s l=match l.find? (fun t=>t.FName==s) with|some t=>Sum.inr (t,true)|none=>Sum.inl ():=by
 induction l with
 | nil=>rfl
 | cons a r ih =>
  rw [Z38_q7,List.find?_cons];simp only [Ab.on,ih];cases a.FName==s<;>rfl
theorem ffind_eq (q:Z9) (s:Bs):Z38_q q s=fndG q.FFrags.l s:=by
 unfold Z38_q fndG;simp only [Ab.on];rw [ffindAux];cases q.FFrags.l.find? (fun t=>t.FName==s)<;>rfl
theorem fndG_name {l:List Z6}{s:Bs}(h:(fndG l s).2=true):(fndG l s).1.FName=s/\(fndG l s).1∈l:=by
 unfold fndG at *;cases e:l.find? (fun t=>t.FName==s) with
 | none=>rw [e] at h; cases h
 | some t=>exact⟨by simpa using List.find?_some e,List.mem_of_find?_eq_some e⟩
theorem indexAux (s:Bs) (l:List Bs):∀n:Nat,(l.contains s=false->Z117_q6 s l n=Sum.inl ())/\(l.contains s=true->∃m:Nat,Z117_q6 s l n=Sum.inr (m:Int)):=by
 induction l with
 | nil=>intro n; exact⟨fun _=>rfl,fun h=>by simp at h⟩
 | cons a r ih =>
  intro n;rw [Z117_q6];simp only [Ab.on,List.contains_cons];cases s==a
  ·simp only [Bool.false_or,cond_false]; exact ih (n+1)
  ·simp only [Bool.true_or,cond_true]; exact⟨fun h=>by simp at h,fun _=>⟨n,rfl⟩⟩
theorem contains_eqB (a:Sl Bs) (s:Bs):Z110_q a s=a.l.contains s:=by
 unfold Z110_q Z117_q;simp only [Ab.on];have h:=indexAux s a.l 0;cases hc:a.l.contains s
 ·rw [h.1 hc]; rfl
 ·obtain⟨m,e⟩:=h.2 hc;rw [e]; exact decide_eq_true (by simp)
theorem unseen_all (fr:Sl Z6) (seen:List Bs):unseen fr seen<=fr.l.length:=List.length_filter_le _ _
def Vis (q:Z9) (o:Option (Sl Bs×Bool)) (s:Sl Bs):Prop:=∃s' b,o=some (s',b)/\(∀x∈s.l,x∈s'.l)/\unseen q.FFrags s'.l+s'.l.length<=unseen q.FFrags s.l+s.l.length
theorem meas_le {a b T x y n:Nat}(h:a<=b) (hx:x<=y) (h2:b*(T+1)+y<=n):a*(T+1)+x<=n:=by
 have:a*(T+1)<=b*(T+1):=Nat.mul_le_mul_right _ h;omega
theorem meas_lt {a b T x y n:Nat}(h:a<b) (hx:x<=T) (h2:b*(T+1)+y<=n):a*(T+1)+x<n:=by
 have:(a+1)*(T+1)<=b*(T+1):=Nat.mul_le_mul_right _ h;rw [Nat.succ_mul] at this;omega
theorem walk_loop {q:Z9}{T n:Nat}(hT:∀f∈q.FFrags.l,(f.FSels.l.map TSel.sz).sum<=T)
  (ih:∀(l:Sl TSel) (s:Sl Bs),unseen q.FFrags s.l*(T+1)+(l.l.map TSel.sz).sum<n->(l.l.map TSel.sz).sum<=T->unseen q.FFrags s.l+s.l.length<=1048576->Vis q (Z43_qn n q l s) s) :
  ∀(l:List TSel) (s:Sl Bs) (b:Bool),unseen q.FFrags s.l*(T+1)+(l.map TSel.sz).sum<=n->(l.map TSel.sz).sum<=T->unseen q.FFrags s.l+s.l.length<=1048576->Vis q (Z43_q9 q (Z43_qn n) l s b) s
 | [],s,b,_,_,_=>⟨s,b,rfl,fun _ h=>h,Nat.le_refl _⟩
 | h::r,s,b,hn,hl,hb=>by
  simp only [List.map_cons,List.sum_cons] at hn hl;have hp:(h.FSels.l.map TSel.sz).sum+4<=h.sz:=by have:=sel_len h; omega
  have rest:∀(o:Option (Sl Bs×Bool)),Vis q o s->Vis q (Option.bind o fun z16=>Z43_q9 q (Z43_qn n) r z16.1 z16.2) s:=fun o ho=>by
   obtain⟨s1,b1,e,hs,hu⟩:=ho;have hle:=unseen_le (fr:=q.FFrags) hs;obtain⟨s2,b2,e2,hs2,hu2⟩:=walk_loop hT ih r s1 b1 (meas_le hle (by omega) hn) (by omega) (by omega);exact⟨s2,b2,by rw [e,Option.bind_some]; exact e2,fun x hx=>hs2 x (hs x hx),by omega⟩
  rw [Z43_q9];simp only [Ab.on,ffind_eq,contains_eqB];refine rest _ ?_;cases decide (h.FKind=2)
  ·rw [cond_false];obtain⟨s1,b1,e,hs,hu⟩:=ih h.FSels s (by omega) (by omega) hb;exact⟨s1,b&&b1,by rw [e]; rfl,hs,hu⟩
  ·rw [cond_true];cases hf:(fndG q.FFrags.l h.FName).2
   ·exact⟨s,b&&false,rfl,fun _ h=>h,Nat.le_refl _⟩
   ·obtain⟨hn1,hm⟩:=fndG_name hf;simp only [Bool.not_true,Bool.not_false,cond_true,Bool.false_or];cases hc:s.l.contains h.FName
    ·rw [cond_false];have hsub:∀x∈s.l,x∈s.l++[h.FName]:=fun x hx=>by simp [hx]
     have hlt:=unseen_lt (fr:=q.FFrags) hsub hm (by rw [hn1]; simpa using hc) (by rw [hn1]; simp);rw [appC_ok (by decide) (by simp only [List.length_singleton]; omega),Option.bind_some];obtain⟨s1,b1,e,hs,hu⟩:=ih (fndG q.FFrags.l h.FName).1.FSels ⟨s.nl&&List.isEmpty [h.FName],s.l++[h.FName]⟩ (meas_lt hlt (hT _ hm) hn) (hT _ hm) (by simp only [List.length_append,List.length_singleton]; omega);refine⟨s1,(b&&true)&&b1,by rw [e]; rfl,fun x hx=>hs x (hsub x hx), ?_⟩
     simp only [List.length_append,List.length_singleton] at hu;omega
    ·exact⟨s,b&&true,rfl,fun _ h=>h,Nat.le_refl _⟩
theorem walk_tot {q:Z9}{T:Nat}(hT:∀f∈q.FFrags.l,(f.FSels.l.map TSel.sz).sum<=T):∀(n:Nat) (l:Sl TSel) (s:Sl Bs),unseen q.FFrags s.l*(T+1)+(l.l.map TSel.sz).sum<n->(l.l.map TSel.sz).sum<=T->unseen q.FFrags s.l+s.l.length<=1048576->Vis q (Z43_qn n q l s) s
 | 0,_,_,h,_,_=>by omega
 | n+1,l,s,hn,hl,hb=>by
  obtain⟨s1,b1,e,hs,hu⟩:=walk_loop hT (walk_tot hT n) l.l s true (by omega) hl hb;exact⟨s1,b1,by rw [Z43_qn,e]; rfl,hs,hu⟩
def QOkV (q:Z9):Prop:=q.FFrags.l.length<=1048576/\∀f∈q.FFrags.l,(f.FSels.l.map TSel.sz).sum<=1048576
theorem walk_top {q:Z9}(hq:QOkV q) (l:Sl TSel) (hl:(l.l.map TSel.sz).sum<=1048576):∃s' b,Z43_q q l Sl.nil=some (s',b)/\s'.l.length<=1048576:=by
 have hu:=unseen_all q.FFrags [];have h1:=hq.1;have hm:unseen q.FFrags []*(1048576+1)<=1048576*(1048576+1):=Nat.mul_le_mul_right _ (by omega);obtain⟨s',b,e,_,h2⟩:=walk_tot hq.2 F0 l Sl.nil (by rw [F0_eq]; simp only [Sl.nil]; omega) hl (by simp only [Sl.nil,List.length_nil]; omega);refine⟨s',b,e, ?_⟩;simp only [Sl.nil,List.length_nil] at h2;omega
theorem loops_told13 {q:Z9}(hq:QOkV q) (f:Z6) (hf:(f.FSels.l.map TSel.sz).sum<=1048576):∃b,Z42_q q f=some b:=by
 obtain⟨s,b,e,_⟩:=walk_top hq f.FSels hf;unfold Z42_q;rw [e]; exact⟨_,rfl⟩
theorem op_sels (o:TOp):(o.FSels.l.map TSel.sz).sum+o.FName.length<=o.sz:=by
 have h:=o.sz_def;have h1:Bs.sz o.FName=o.FName.length+1:=rfl;have h3:Sl.sz TSel.sz o.FSels=1+(o.FSels.l.map TSel.sz).sum:=rfl;omega
theorem frag_sels (o:Z6):(o.FSels.l.map TSel.sz).sum+o.FName.length<=o.sz:=by
 have h:=o.sz_def;have h1:Bs.sz o.FName=o.FName.length+1:=rfl;have h3:Sl.sz TSel.sz o.FSels=1+(o.FSels.l.map TSel.sz).sum:=rfl;omega
theorem gops {q:Z9}(hq:QOkV q):∀(l:List TOp) (c:Z2) (m:List Bs),(l.map TOp.sz).sum<=1048576->c.Fd.FDefs.l.length<=1048576->c.Fout.l.length+2*(l.map TOp.sz).sum<=10000000->∃c' m',Z37_q35 q l c m=some (c',m')/\c'.Fd=c.Fd/\c'.Fout.l.length<=c.Fout.l.length+2*(l.map TOp.sz).sum
 | [],c,m,_,_,_=>⟨c,m,rfl,rfl,by omega⟩
 | o::r,c,m,hl,hd,hb=>by
  simp only [List.map_cons,List.sum_cons] at hl hb ⊢;have ho:=op_sels o;rw [Z37_q35];simp only [Ab.on];obtain⟨c1,e1,f1,h1⟩:=GKg (gsels F0 o.FSels (Z92_q o.FKind) o.FName c (by rw [F0_eq]; omega) (by omega) hd (by omega));rw [show Z41_q c o.FSels (Z92_q o.FKind) o.FName=some c1 from e1,Option.bind_some];obtain⟨s,b,e2,_⟩:=walk_top hq o.FSels (by omega);rw [e2,Option.bind_some];obtain⟨c2,m2,e3,f3,h3⟩:=gops hq r c1 (Z37_q55 s.l m) (by omega) (by rw [f1]; exact hd) (by omega)
  exact⟨c2,m2,e3,f3.trans f1,by omega⟩
theorem gfrags {d:TDoc}{q:Z9}(hq:QOkV q) (M:List Bs):∀(l:List Z6) (c:Z2),(l.map Z6.sz).sum<=1048576->c.Fd.FDefs.l.length<=1048576->c.Fout.l.length+3*l.length+2*(l.map Z6.sz).sum<=20000000->GK (Z37_q15 d q M l c) c (3*l.length+2*(l.map Z6.sz).sum)
 | [],c,_,_,_=>Tk.pure c _
 | f::r,c,hl,hd,hb=>by
  simp only [List.map_cons,List.sum_cons,List.length_cons] at hl hb ⊢;have hf:=frag_sels f;rw [Z37_q15];simp only [Ab.on];refine Tk.bind (k:=1) (m:=2+3*r.length+2*(f.sz+(r.map Z6.sz).sum)) (gadd (by omega) _ _ _) (by omega) fun c1 e1 h1=>?_;refine Tk.bindT (loops_told13 hq f (by omega)) fun v _=>?_;refine Tk.bind (k:=1) (m:=1+3*r.length+2*(f.sz+(r.map Z6.sz).sum)) (gadd (by omega) _ _ _) (by omega) fun c2 e2 h2=>?_
  refine Tk.bind (k:=1) (m:=3*r.length+2*(f.sz+(r.map Z6.sz).sum)) (gadd (by omega) _ _ _) (by omega) fun c3 e3 h3=>?_;have e:c3.Fd=c.Fd:=e3.trans (e2.trans e1);refine Tk.bind (k:=2*f.sz) (m:=3*r.length+2*(r.map Z6.sz).sum) ((gsels F0 f.FSels f.FOn f.FName c3 (by rw [F0_eq]; omega) (by omega) (by rw [e]; exact hd) (by omega)).mono (by omega)) (by omega) fun c4 e4 h4=>?_;exact gfrags hq M r c4 (by omega) (by rw [e4.trans e]; exact hd) (by omega)
theorem qokv {q:Z9}(hq:q.sz<=1048576):QOkV q:=by
 have h:=q.sz_def;have h1:=Sl.len_lt (f:=Z6.sz) q.FFrags Z6.pos;refine⟨by omega,fun f hf=>?_⟩;have h2:=Sl.mem_le (f:=Z6.sz) hf;have h3:=frag_sels f;omega
theorem fragment_told {d:TDoc}{q:Z9}(hd:d.FDefs.l.length<=1048576) (hq:q.sz<=1048576):∃l,Z37_q d q=some l:=by
 have h:=q.sz_def;have h1:Sl.sz TOp.sz q.FOps=1+(q.FOps.l.map TOp.sz).sum:=rfl;have h2:Sl.sz Z6.sz q.FFrags=1+(q.FFrags.l.map Z6.sz).sum:=rfl;have h3:=Sl.len_lt (f:=Z6.sz) q.FFrags Z6.pos;unfold Z37_q;obtain⟨c,m,e,f,g⟩:=gops (qokv hq) q.FOps.l (Z2.mk d q (Sl.nil:Sl Z4)) [] (by omega) hd (by show 0+_<=_; omega);have g:c.Fout.l.length<=0+2*(q.FOps.l.map TOp.sz).sum:=g;have f:c.Fd=d:=f;rw [e,Option.bind_some]
 simp only [Ab.on];obtain⟨c2,e2,_⟩:=GKg (gfrags (d:=d) (qokv hq) m q.FFrags.l c (by omega) (by rw [f]; exact hd) (by omega));rw [e2];exact⟨_,rfl⟩
end Go.Proofs

namespace Go.Proofs
open Go Go.Ab
inductive GSel (d:TDoc):TSel->Prop
 | mk (s:TSel):(s.FKind=3->s.FOn≠[]->Z86_q d s.FOn=true)->(s.FKind≠2->∀x∈s.FSels.l,GSel d x)->GSel d s
abbrev GP (o:Option Z2) (c:Z2) (P:Prop):Prop:=Ps Z2.Fd (fun c=>c.Fout.l.length) id o c P
theorem paddG (c:Z2) (b:Bool) (e:Int) (s:Bs):GP (Z39_q c b e s) c (b=false):=by
 unfold Z39_q;cases b
 ·exact Ps.pure rfl rfl
 ·rw [cond_true];intro a ha;cases h:appC 24 c.Fout ⟨false,[Z4.mk e s]⟩ with
  | none=>rw [h] at ha; cases ha
  | some v =>
   have hv:=len_appC h;rw [h] at ha; cases ha;simp only [List.length_singleton] at hv;exact⟨rfl,by show c.Fout.l.length<=v.l.length; omega,fun e=>absurd (show v.l.length=c.Fout.l.length from e) (by omega)⟩
theorem psels {d:TDoc}:∀(n:Nat) (l:Sl TSel) (on_ at_:Bs) (c:Z2),c.Fd=d->GP (Z41_qn n c l on_ at_) c (∀s∈l.l,GSel d s)
 | 0,_,_,_,_,_=>fun a e=>by cases e
 | n+1,l,on_,at_,c,hc=>by
  have loop:∀(t:List TSel) (c:Z2),c.Fd=d->GP (Z41_q3 on_ at_ (Z41_qn n) t c) c (∀s∈t,GSel d s):=by
   intro t;induction t with
   | nil=>intro c _; exact Ps.pure rfl fun _ h=>by cases h
   | cons x r ih =>
    intro c hc;rw [Z41_q3];simp only [Ab.on];refine Ps.bind (P:=GSel d x) (pr:=id) ?_ (Q:=∀s∈r,GSel d s) (fun h h2 y hy=>?_) fun c1 _ f1=>ih c1 (f1.trans hc)
    ·refine Ps.cond (fun hk=>?_) fun h2=>Ps.cond (fun hk=>?_) fun h3=>?_
     ·have hk:=of_decide_eq_true hk;have hg:GSel d x:=⟨_,fun h=>absurd (hk.symm.trans h) (by decide),fun h=>absurd hk h⟩;refine Ps.bind (paddG _ _ _ _) (Q:=True) (fun _ _=>hg) fun c1 _ _=>?_;refine Ps.guard fun v=>?_;exact Ps.bind (paddG _ _ _ _) (Q:=True) (fun _ _=>trivial) fun c2 _ _=>Ps.pure rfl trivial
     ·have hk:=of_decide_eq_true hk;refine Ps.bind (pr:=fun z:Bs×Z2=>z.2) (P:=x.FOn≠[]->Z86_q d x.FOn=true) ?_ (Q:=∀s∈x.FSels.l,GSel d s) (fun h h2=>⟨_,fun _=>h,fun _=>h2⟩) fun z _ f1=>?_
      ·refine Ps.cond (fun ho=>?_) fun ho=>Ps.pure rfl fun h=>absurd (by simpa using ho) h;refine Ps.bind (paddG _ _ _ _) (Q:=True) (fun h _ _=>by rw [<- hc]; simpa using h) fun c1 _ _=>?_;refine Ps.guard fun v=>?_;exact Ps.bind (paddG _ _ _ _) (Q:=True) (fun _ _=>trivial) fun c2 _ _=>Ps.pure rfl trivial
      ·exact Ps.bind (psels n x.FSels z.1 at_ z.2 (f1.trans hc)) (Q:=True) (fun h _=>h) fun c2 _ _=>Ps.pure rfl trivial
     ·have h2:=of_decide_eq_false h2;have h3:=of_decide_eq_false h3;refine Ps.any fun a _=>Ps.any fun b _=>?_;exact Ps.bind (psels n x.FSels _ _ c hc) (Q:=True) (fun h _=>⟨_,fun e=>absurd e h3,fun _=>h⟩) fun c2 _ _=>Ps.pure rfl trivial
    ·rcases List.mem_cons.1 hy with rfl|hy
     ·exact h
     ·exact h2 y hy
  rw [Z41_qn];exact Ps.bind (loop l.l c hc) (Q:=True) (fun h _=>h) fun c1 _ _=>Ps.pure rfl trivial
theorem pops {d:TDoc}{q:Z9}:∀(l:List TOp) (c:Z2) (m:List Bs),c.Fd=d->Ps Z2.Fd (fun c=>c.Fout.l.length) (fun z:Z2×List Bs=>z.1) (Z37_q35 q l c m) c (∀o∈l,∀s∈o.FSels.l,GSel d s)
 | [],c,m,_=>Ps.pure rfl fun _ h=>by cases h
 | o::r,c,m,hc=>by
  rw [Z37_q35];simp only [Ab.on];refine Ps.bind (pr:=id) (psels F0 o.FSels (Z92_q o.FKind) o.FName c hc) (Q:=∀o∈r,∀s∈o.FSels.l,GSel d s) (fun h h2 y hy=>?_) fun c1 _ f1=>?_
  ·rcases List.mem_cons.1 hy with rfl|hy
   ·exact h
   ·exact h2 y hy
  ·exact Ps.any fun w _=>pops r c1 _ (f1.trans hc)
theorem pfrags {d:TDoc}{q:Z9}(M:List Bs):∀(l:List Z6) (c:Z2),c.Fd=d->GP (Z37_q15 d q M l c) c (∀o∈l,Z86_q d o.FOn=true/\∀s∈o.FSels.l,GSel d s)
 | [],c,_=>Ps.pure rfl fun _ h=>by cases h
 | o::r,c,hc=>by
  rw [Z37_q15];simp only [Ab.on];have key:∀{c1:Z2},c1.Fd=d->∀{A:Prop},(A->Z86_q d o.FOn=true)->GP (Z41_q c1 o.FSels o.FOn o.FName) c1 (∀s∈o.FSels.l,GSel d s):=fun h _ _=>psels F0 o.FSels o.FOn o.FName _ h;refine Ps.bind (paddG _ _ _ _) (Q:=(∀s∈o.FSels.l,GSel d s)/\∀o∈r,Z86_q d o.FOn=true/\∀s∈o.FSels.l,GSel d s) (fun h h2 y hy=>?_) fun c1 _ f1=>?_
  ·rcases List.mem_cons.1 hy with rfl|hy
   ·exact⟨by simpa using h,h2.1⟩
   ·exact h2.2 y hy
  ·refine Ps.any fun w _=>?_;refine Ps.bind (paddG _ _ _ _) (Q:=(∀s∈o.FSels.l,GSel d s)/\∀o∈r,Z86_q d o.FOn=true/\∀s∈o.FSels.l,GSel d s) (fun _ h=>h) fun c2 _ f2=>?_;refine Ps.bind (paddG _ _ _ _) (Q:=(∀s∈o.FSels.l,GSel d s)/\∀o∈r,Z86_q d o.FOn=true/\∀s∈o.FSels.l,GSel d s) (fun _ h=>h) fun c3 _ f3=>?_;have e:c3.Fd=d:=f3.trans (f2.trans (f1.trans hc));refine Ps.bind (psels F0 o.FSels o.FOn o.FName c3 e) (Q:=∀o∈r,Z86_q d o.FOn=true/\∀s∈o.FSels.l,GSel d s) (fun h h2=>⟨h,h2⟩) fun c4 _ f4=>?_
   exact pfrags M r c4 (f4.trans e)
theorem fragment_said {d:TDoc}{q:Z9}{l:Sl Z4}(h:Z37_q d q=some l) (h0:l.l=[]):(∀o∈q.FOps.l,∀s∈o.FSels.l,GSel d s)/\∀o∈q.FFrags.l,Z86_q d o.FOn=true/\∀s∈o.FSels.l,GSel d s:=by
 unfold Z37_q at h;cases e:Z37_q35 q q.FOps.l (Z2.mk d q (Sl.nil:Sl Z4)) [] with
 | none=>rw [e] at h; cases h
 | some z =>
  rw [e,Option.bind_some] at h;simp only [Ab.on] at h;obtain⟨f1,g1,s1⟩:=pops (d:=d) q.FOps.l _ [] rfl z e;cases e2:Z37_q15 d q z.2 q.FFrags.l z.1 with
  | none=>rw [e2] at h; cases h
  | some c =>
   rw [e2] at h;obtain⟨f2,g2,s2⟩:=pfrags (d:=d) z.2 q.FFrags.l z.1 f1 c e2;have hl:c.Fout=l:=Option.some.inj h;have g2:z.1.Fout.l.length<=c.Fout.l.length:=g2;have hz:z.1.Fout.l.length=0:=by rw [hl,h0] at g2; simpa using g2
   refine⟨s1 hz,s2 ?_⟩;show c.Fout.l.length=z.1.Fout.l.length;rw [hz,hl,h0]; rfl
end Go.Proofs

namespace Go.Proofs
open Go Go.Ab
theorem condS {α:Type}{c:Bool}{a b:Option α}{z:α}(h:cond c a b=some z):(c=true/\a=some z)\/(c=false/\b=some z):=by cases c; exact .inr ⟨rfl,h⟩; exact .inl ⟨rfl,h⟩
theorem flt_nil {b:Bool}{e:Int}{a:Bs}(h:flt b e a=[]):b=false:=by
 cases b
 ·rfl
 ·cases h
theorem right_parts {d:TDoc}{q:Z9}(h:Z47_q d q=some true):Z84_q d=some false/\Z66_q d=some true:=by
 unfold Z47_q at h;obtain⟨x3,g3,h⟩:=bindO_some h;obtain⟨x4,g4,h⟩:=guardO_some h;obtain⟨x5,g5,h⟩:=guardO_some h;obtain⟨x6,g6,h⟩:=guardO_some h;have h:=Option.some.inj h;cases x3
 ·cases x4
  ·cases x5
   ·cases h
   ·exact⟨g3,g5 rfl⟩
  ·cases h
 ·cases h
def KindOk (t:TDef):Prop:=(t.FKind=1\/t.FKind=2\/t.FKind=3\/t.FKind=4\/t.FKind=5)/\(t.FKind=3->t.FFields.l=[])
theorem defRight_kind {t:TDef}(h:Z68_q t=some true):KindOk t:=by
 unfold Z68_q at h;simp only [Ab.on] at h;obtain⟨x5,_,h⟩:=guardO_some h;rcases condS h with ⟨_,h⟩|⟨_,h⟩
 ·cases h
 ·cases e:Z68_q34 t.FImplements.l with
  | inr b =>
   rw [e] at h;have h2:∀l:List Bs,Z68_q34 l=Sum.inr b->b=false:=by
    intro l;induction l with
    | nil=>intro h; cases h
    | cons a r ih =>
     intro h;rw [Z68_q34] at h;simp only [Ab.on] at h;cases hn:Z50_q a<;>rw [hn] at h
     ·cases h; rfl
     ·exact ih h
   rw [h2 _ e] at h; cases h
  | inl u =>
   rw [e] at h;dsimp only at h;rcases condS h with ⟨k,h⟩|⟨k1,h⟩
   ·have k:=of_decide_eq_true k;exact⟨.inl k,fun h3=>absurd (k.symm.trans h3) (by decide)⟩
   rcases condS h with ⟨k,h⟩|⟨k2,h⟩
   ·have k:=of_decide_eq_true k;exact⟨.inr (.inl k),fun h3=>absurd (k.symm.trans h3) (by decide)⟩
   rcases condS h with ⟨k,h⟩|⟨k3,h⟩
   ·have k:=of_decide_eq_true k;obtain⟨x,_,h⟩:=guardO_some h;have h:=Option.some.inj h;simp only [Bool.and_eq_true,decide_eq_true_eq] at h;exact⟨.inr (.inr (.inl k)),fun _=>List.eq_nil_of_length_eq_zero (by omega)⟩
   rcases condS h with ⟨k,h⟩|⟨k4,h⟩
   ·have k:=of_decide_eq_true k;exact⟨.inr (.inr (.inr (.inl k))),fun h3=>absurd (k.symm.trans h3) (by decide)⟩
   rcases condS h with ⟨k,h⟩|⟨k5,h⟩
   ·have k:=of_decide_eq_true k;exact⟨.inr (.inr (.inr (.inr k))),fun h3=>absurd (k.symm.trans h3) (by decide)⟩
   ·cases h
theorem defs_kind:∀l:List TDef,Z66_q10 l=some (Sum.inl ())->∀t∈l,KindOk t
 | [],_,_,h=>by cases h
 | a::r,h,t,ht=>by
  rw [Z66_q10] at h;simp only [Ab.on] at h;obtain⟨b,e,h⟩:=bindO_some h;cases b
  ·cases h
  ·rcases List.mem_cons.1 ht with rfl|ht
   ·exact defRight_kind e
   ·exact defs_kind r h t ht
theorem kinds {d:TDoc}(h:Z66_q d=some true):∀t∈d.FDefs.l,KindOk t:=by
 unfold Z66_q at h;rcases condS h with ⟨_,h⟩|⟨_,h⟩
 ·cases h
 ·obtain⟨z,g,h⟩:=bindO_some h;cases z with
  | inl u=>exact defs_kind _ g
  | inr b =>
   have h2:∀l:List TDef,Z66_q10 l=some (Sum.inr b)->b=false:=by
    intro l;induction l with
    | nil=>intro h; cases h
    | cons a r ih =>
     intro h;rw [Z66_q10] at h;simp only [Ab.on] at h;obtain⟨x,e,h⟩:=bindO_some h;cases x
     ·cases h; rfl
     ·exact ih h
   rw [h2 _ g] at h; cases h
def LC (d:TDoc) (n:Bs):Prop:=Z91_q d n=true\/Z86_q d n=true
theorem fnd_in {l:List TDef}{s:Bs}(h:(fnd l s).2=true):(fnd l s).1∈l:=by
 unfold fnd at *;cases e:l.find? (fun t=>t.FName==s) with
 | none=>rw [e] at h; cases h
 | some t=>exact List.mem_of_find?_eq_some e
theorem out_lc {d:TDoc}(hk:∀t∈d.FDefs.l,KindOk t){n:Bs}(h:OutOk d n):LC d n:=by
 unfold LC Z91_q Z86_q;simp only [Ab.on];cases hs:Z93_q n
 ·rcases h with h|⟨h1,h2⟩
  ·rw [hs] at h; cases h
  ·have h3:Z103_q d n=(fnd d.FDefs.l n).1.FKind:=by unfold Z103_q; rw [find_eq]; rfl
   rw [find_eq] at h1;rcases (hk _ (fnd_in h1)).1 with e|e|e|e|e<;>rw [h3] at h2 ⊢<;>rw [e] at h2 ⊢
   ·right; rfl
   ·right; rfl
   ·right; rfl
   ·left; rfl
   ·exact absurd rfl h2
 ·left; rfl
theorem comp_kind {d:TDoc}{n:Bs}(h:Z86_q d n=true):(fnd d.FDefs.l n).1.FKind=1\/(fnd d.FDefs.l n).1.FKind=2\/(fnd d.FDefs.l n).1.FKind=3:=by
 unfold Z86_q Z103_q at h;simp only [Ab.on,find_eq,Bool.and_eq_true,Bool.or_eq_true,decide_eq_true_eq] at h;rcases h.2 with (h|h)|h
 ·exact .inl h
 ·exact .inr (.inl h)
 ·exact .inr (.inr h)
theorem type_lc {d:TDoc}(hk:∀t∈d.FDefs.l,KindOk t) (hs:∀t∈d.FDefs.l,DefSaid d t) (on_ f:Bs) (h:(typeX d on_ f).2=true):LC d (typeX d on_ f).1.FName:=by
 unfold typeX at h ⊢;cases hc:Z86_q d on_
 ·rw [hc] at h; cases h
 ·rw [hc] at h;simp only [Bool.not_true,cond_false] at h ⊢;cases hf:f==sTypename
  ·rw [hf] at h;simp only [cond_false] at h ⊢;cases hF:(fndF (fnd d.FDefs.l on_).1.FFields.l f).2
   ·rw [hF] at h; cases h
   ·simp only [Bool.not_true,cond_false];have hin:(fnd d.FDefs.l on_).1∈d.FDefs.l:=by
     rcases fnd_mem d.FDefs.l on_ with e|e
     ·rw [e] at hF; cases hF
     ·exact e
    have hfin:(fndF (fnd d.FDefs.l on_).1.FFields.l f).1∈(fnd d.FDefs.l on_).1.FFields.l:=by
     unfold fndF at hF ⊢;cases e:(fnd d.FDefs.l on_).1.FFields.l.find? (fun t=>t.FName==f) with
     | none=>rw [e] at hF; cases hF
     | some t=>exact List.mem_of_find?_eq_some e
    refine out_lc hk (hs _ hin ?_ _ hfin);rcases comp_kind hc with e|e|e
    ·exact .inl e
    ·exact .inr e
    ·rw [(hk _ hin).2 e] at hfin; cases hfin
  ·exact .inl rfl
theorem own_said {d:TDoc}{s:TSel}{on_ a:Bs}(h:ownX d s on_ a=[]) (hc:Z86_q d on_=true) (hlc:(typeX d on_ s.FName).2=true->LC d (typeX d on_ s.FName).1.FName):(typeX d on_ s.FName).2=true/\(s.FSels.l=[]\/Z86_q d (typeX d on_ s.FName).1.FName=true):=by
 unfold ownX at h;obtain⟨_,h⟩:=List.append_eq_nil_iff.1 h;obtain⟨h1,h⟩:=List.append_eq_nil_iff.1 h;have h1:=flt_nil h1;cases ht:(typeX d on_ s.FName).2
 ·rw [ht,hc] at h1; cases h1
 ·refine⟨rfl, ?_⟩;rw [ht] at h;obtain⟨h,_⟩:=List.append_eq_nil_iff.1 h;obtain⟨h,_⟩:=List.append_eq_nil_iff.1 h;unfold leafX at h;have h:=flt_nil h;rcases hlc ht with hl|hl
  ·left
   rw [hl] at h;cases hn:s.FSels.l with
   | nil=>rfl
   | cons x r=>rw [hn] at h; simp at h
  ·exact .inr hl
theorem typed_ok {d:TDoc}(hd:DefsOk d) (hT:∀on_ f,(typeX d on_ f).2=true->LC d (typeX d on_ f).1.FName):∀(n:Nat) (l:Sl TSel) (on_ a:Bs) (m:Nat),Sl.sz TSel.sz l<n->Sl.sz TSel.sz l<=m->(∀s∈l.l,GSel d s)->selsX m d l.l on_ a=[]->(l.l=[]\/Z86_q d on_=true)->Z49_qn n d l on_=some true
 | 0,_,_,_,_,h,_,_,_,_=>by omega
 | n+1,l,on_,a,m,hn,hm,hg,hx,hc=>by
  obtain⟨m,rfl⟩:∃k,m=k+1:=⟨m-1,by have:1<=Sl.sz TSel.sz l:=Sl.sz_pos _ _; omega⟩;have loop:∀t:List TSel,(∀s∈t,s∈l.l)->(t.flatMap (selX (selsX m d) d on_ a)=[])->(t=[]\/Z86_q d on_=true)->Z49_q5 d on_ (Z49_qn n) t=some (Sum.inl ()):=by
   intro t;induction t with
   | nil=>intro _ _ _; rfl
   | cons s r ih =>
    intro ht hf hc;rw [List.flatMap_cons] at hf;obtain⟨hf1,hf2⟩:=List.append_eq_nil_iff.1 hf;have hc:Z86_q d on_=true:=by
     rcases hc with h|h
     ·cases h
     ·exact h
    have ih:=ih (fun x hx=>ht x (.tail _ hx)) hf2 (.inr hc);have hs:=ht s (.head _);have h5:=Sl.mem_le (f:=TSel.sz) hs;have h6:=s.sub_lt;have hG:=hg s hs;rw [Z49_q5];simp only [Ab.on,ih,type_eq hd,Option.bind_some];unfold selX at hf1;cases k2:decide (s.FKind=2)
    ·rw [k2] at hf1;simp only [cond_false] at hf1 ⊢;have k2:=of_decide_eq_false k2;have hsub:∀x∈s.FSels.l,GSel d x:=by
      obtain⟨_,_,g⟩:=hG;exact g k2
     cases k3:decide (s.FKind=3)
     ·rw [k3] at hf1;simp only [cond_false] at hf1 ⊢;obtain⟨p1,p2⟩:=List.append_eq_nil_iff.1 hf1;obtain⟨q1,q2⟩:=own_said p1 hc (hT on_ s.FName);rw [q1,typed_ok hd hT n s.FSels _ _ m (by omega) (by omega) hsub p2 q2];rfl
     ·rw [k3] at hf1;simp only [cond_true] at hf1 ⊢;have k3:=of_decide_eq_true k3;obtain⟨_,p2⟩:=List.append_eq_nil_iff.1 hf1;have hgo:∀to:Bs,(bif !(s.FOn==[]) then s.FOn else on_)=to->Z86_q d to=true->Z49_qn n d s.FSels to=some true:=fun to e hto=>by
       rw [e] at p2;exact typed_ok hd hT n s.FSels to _ m (by omega) (by omega) hsub p2 (.inr hto)
      cases ho:(!(s.FOn==([]:Bs)))
      ·rw [ho] at hgo;rw [cond_false,hgo on_ rfl hc];rfl
      ·rw [ho] at hgo;have hcO:Z86_q d s.FOn=true:=by
        obtain⟨_,g,_⟩:=hG;exact g k3 (by intro e; rw [e] at ho; cases ho)
       rw [cond_true,hgo s.FOn rfl hcO];rfl
    ·rfl
  rw [Z49_qn,loop l.l (fun _ h=>h) hx hc];rfl
theorem root_comp {d:TDoc}{k:Int}(h1:(fnd d.FDefs.l (Z92_q k)).2=true) (h2:(fnd d.FDefs.l (Z92_q k)).1.FKind=1):Z86_q d (Z92_q k)=true:=by
 have hs:Z93_q (Z92_q k)=false:=by
  unfold Z92_q;cases decide (k=1)
  ·cases decide (k=2)
   ·cases decide (k=3)<;>rfl
   ·rfl
  ·rfl
 unfold Z86_q Z103_q;simp only [Ab.on,find_eq];rw [hs,h2]; rfl
theorem ops_typed {d:TDoc}(hd:DefsOk d) (hT:∀on_ f,(typeX d on_ f).2=true->LC d (typeX d on_ f).1.FName) (fr:Sl Z6):∀l:List TOp,(∀o∈l,o.sz<=1048576)->(∀o∈l,∀s∈o.FSels.l,GSel d s)->l.flatMap (opX d fr)=[]->Z45_q31 d l=some (Sum.inl ())
 | [],_,_,_=>rfl
 | o::r,hz,hg,hx=>by
  rw [List.flatMap_cons] at hx;obtain⟨h1,h2⟩:=List.append_eq_nil_iff.1 hx;unfold opX at h1;obtain⟨h3,h4⟩:=List.append_eq_nil_iff.1 h1;have h3:=flt_nil h3;simp only [Bool.or_eq_false_iff,Bool.not_eq_false',decide_eq_true_eq] at h3;have hz1:=hz o (.head _);have h5:=o.sz_def;have h6:Sl.sz TSel.sz o.FSels<=1048576:=by omega
  rw [Z45_q31];simp only [Ab.on];rw [show Z49_q d o.FSels (Z92_q o.FKind)=some true from typed_ok hd hT F0 o.FSels _ _ M0 (by rw [F0_eq]; omega) (by unfold M0; omega) (hg o (.head _)) h4 (.inr (root_comp h3.1.1 h3.1.2)),Option.bind_some];exact ops_typed hd hT fr r (fun x hx=>hz x (.tail _ hx)) (fun x hx=>hg x (.tail _ hx)) h2
theorem frags_typed {d:TDoc}(hd:DefsOk d) (hT:∀on_ f,(typeX d on_ f).2=true->LC d (typeX d on_ f).1.FName):∀l:List Z6,(∀o∈l,o.sz<=1048576)->(∀o∈l,Z86_q d o.FOn=true/\∀s∈o.FSels.l,GSel d s)->l.flatMap (fragX d)=[]->Z45_q17 d l=some (Sum.inl ())
 | [],_,_,_=>rfl
 | o::r,hz,hg,hx=>by
  rw [List.flatMap_cons] at hx;obtain⟨h1,h2⟩:=List.append_eq_nil_iff.1 hx;have hz1:=hz o (.head _);have h5:=o.sz_def;have h6:Sl.sz TSel.sz o.FSels<=1048576:=by omega
  rw [Z45_q17];simp only [Ab.on];rw [show Z49_q d o.FSels o.FOn=some true from typed_ok hd hT F0 o.FSels _ o.FName M0 (by rw [F0_eq]; omega) (by unfold M0; omega) (hg o (.head _)).2 h1 (.inr (hg o (.head _)).1),Option.bind_some];exact frags_typed hd hT r (fun x hx=>hz x (.tail _ hx)) (fun x hx=>hg x (.tail _ hx)) h2
theorem nil_of {α:Type}{l:List α}(h:decide ((0:Int)<((l.length:Nat):Int))=false):l=[]:=by
 cases l with
 | nil=>rfl
 | cons a r=>simp at h
theorem typed_q (d:TDoc) (q:Z9) (hz:d.sz<=1048576) (hw:d.wf) (hq:q.sz<=1048576):Z45_q d q=some true:=by
 have hd:=defsOk hz hw;have hdl:d.FDefs.l.length<=1048576:=by have h1:=d.sz_def; have h3:=Sl.len_lt (f:=TDef.sz) d.FDefs TDef.pos; omega
 obtain⟨b,hb⟩:=right_ok d q hz hq;unfold Z45_q;rw [hb,Option.bind_some];have hk:(Z46.bind fun x11=>some x11)=some true:=by rw [knows14]; rfl
 cases b
 ·simp only [Bool.not_false,guardO,Bool.not_true,Bool.true_or,cond_true]; exact hk
 ·obtain⟨hL,hR⟩:=right_parts hb;obtain⟨bL,eL,hsm⟩:=large10 hz;have hsm:=hsm (Option.some.inj (eL.symm.trans hL));obtain⟨l5,e5⟩:=schema_check_tot hz true;obtain⟨l6,e6⟩:=faces_told hz hd hsm;obtain⟨l7,e7⟩:=fragment_told (d:=d) hdl hq;obtain⟨nl,e8⟩:=check_ok hd q hq;simp only [Bool.not_true,Bool.not_false,guardO,Bool.false_or,if_true,e5,Option.bind_some];cases h5:decide ((0:Int)<((l5.l.length:Nat):Int))
  ·simp only [Bool.not_true,Bool.not_false,Bool.false_or,if_true,e6,Option.bind_some];cases h6:decide ((0:Int)<((l6.l.length:Nat):Int))
   ·simp only [Bool.not_true,Bool.not_false,Bool.false_or,if_true,e7,Option.bind_some];cases h7:decide ((0:Int)<((l7.l.length:Nat):Int))
    ·simp only [Bool.not_true,Bool.not_false,Bool.false_or,if_true,e8,Option.bind_some];cases h8:decide ((0:Int)<(((checkX d q).length:Nat):Int))
     ·have n5:=nil_of h5;have n7:=nil_of h7;have n8:=nil_of h8;obtain⟨s1,s2⟩:=fragment_said e7 n7;have hT:=type_lc (kinds hR) (schema_said e5 n5);unfold checkX at n8;obtain⟨c1,c2⟩:=List.append_eq_nil_iff.1 n8;rw [cond_false,ops_typed hd hT q.FFrags q.FOps.l (fun o ho=>Nat.le_trans (Z9.op_le ho) hq) s1 c1,Option.bind_some];dsimp only [Ab.on];rw [frags_typed hd hT q.FFrags.l (fun o ho=>Nat.le_trans (Z9.frag_le ho) hq) s2 c2,Option.bind_some]
      exact hk
     ·exact hk
    ·simp only [Bool.not_true,Bool.not_false,Bool.false_or,Bool.true_or,cond_true]; exact hk
   ·simp only [Bool.not_true,Bool.not_false,Bool.false_or,Bool.true_or,cond_true]; exact hk
  ·simp only [Bool.not_true,Bool.not_false,Bool.false_or,Bool.true_or,cond_true]; exact hk
end Go.Proofs

namespace Go.Proofs.YtaebblbgdccamaaGreat
open Go Go.Ab Go.RowKit Go.ChangeShapes Go.WideShapes Go.ChangeAt
variable {lou:Lou}
theorem bulkAll {H:Type}(l:List (DataW H)):Rows.uptoBulkAll l=(l.map Rows.uptoBulk).sum:=by
 induction l with
 | nil=>rfl
 | cons x r ih=>simp only [Rows.uptoBulkAll,List.map_cons,List.sum_cons,ih]
theorem bulkB {H:Type}:Bulk (H:=H) Rows.uptoBulk:=by
 refine⟨fun d=>?_,fun b=>by simp [Rows.uptoBulk],fun e s=>by simp only [Rows.uptoBulk,bulkAll]; omega,fun l=>by simp only [Rows.uptoBulk,bulkAll]; omega⟩;cases d with
 | lit l=>cases l<;>simp [Rows.uptoBulk]
 | nil=>simp [Rows.uptoBulk]
 | ptr d=>simp [Rows.uptoBulk]
 | slice elems spare=>simp [Rows.uptoBulk]
 | agg parts=>simp [Rows.uptoBulk]
 | iface t d=>simp [Rows.uptoBulk]
 | map entries=>simp [Rows.uptoBulk]
 | held h=>simp [Rows.uptoBulk]
theorem own:ownKnob Tryz.prog.godebug=none:=by kernel_rfl
theorem laid:laidOutB Tryz.prog=true:=by kernel_rfl
theorem bound {H:Type}{l:List (DataW H)}(hk:Rows.uptoSmall H l=true):Rows.uptoBulkAll l<=1048576:=of_decide_eq_true hk
theorem fieldsTyped_eq (d:TDoc) (q:Z9) (hz:d.sz<=1048576) (hw:d.wf) (hq:q.sz<=1048576):Z45 d q=some true:=(Z45_eq d q).trans (typed_q d q hz hw hq)
theorem fieldsTyped_call (d:TDoc) (q:Z9) (hd:d.sz<=1048576) (hw:d.wf) (hq:q.sz<=1048576) (H:Heap):ACalls Tryz.prog 3 [.agg d.c,.agg q.c] H fun r h'=>r=.a (.d (.bool true))/\h'=H:=Z45_walk (fieldsTyped_eq d q hd hw hq) H
end Go.Proofs.YtaebblbgdccamaaGreat

