import Derived.Test.YtaebblbgdccamaaGreatV4
set_option maxRecDepth 100000
set_option maxHeartbeats 2000000
set_option linter.unusedVariables false
set_option linter.unusedSimpArgs false
namespace Go.Proofs
open Go Go.Ab
open AOps Cert AWp Keeps KeepsT
variable {lou:Lou}
def Z35_j2 (a1:TDef) (a2:Z10)  :Option Bool:=(Z108 a1.FInputs (fun y0=>Z36 y0 a2)).bind fun x4=>some (!x4)
def Z35_l7 (a0:TDoc) (a1:TDef) (a2:Z10) (k_rec_111:TDoc->TRef->Z10->Option Bool):Nat->Nat->Option Bool
 | 0,_=>none
 | n7+1,s14_8=>bif (decide (((s14_8:Nat):Int)<((a2.FKeys.l.length:Nat):Int))) then((a2.FKeys.l[s14_8]?).bind fun x14=>(Z89 a1.FInputs x14).bind fun x16=>guardO (!((!x16.2)||(decide (((a2.FItems.l.length:Nat):Int)<=((s14_8:Nat):Int))))) (a2.FItems.l[s14_8]?) Z10.zero fun x18=>guardO (!((!x16.2)||(decide (((a2.FItems.l.length:Nat):Int)<=((s14_8:Nat):Int))))) (k_rec_111 a0 x16.1.FType x18) false fun x19=>bif (((!x16.2)||(decide (((a2.FItems.l.length:Nat):Int)<=((s14_8:Nat):Int))))||(!x19)) then(some false) else((Z35_l7 a0 a1 a2 k_rec_111 n7) (s14_8+1))) else(Z35_j2 a1 a2  )
mutual
def fields_fits_n:Nat->TDoc->TRef->Z10->Option Bool
 | 0,_,_,_=>none
 | n+1,a0,a1,a2=>bif (decide (a2.FKind=(7:Int))) then(some true) else((Z90 a0 a1.FName).bind fun x7=>bif (!x7) then(some false) else(bif (decide (a2.FKind=(0:Int))) then((Z123 a1).bind fun x13=>some (!x13)) else((Z121 a1).bind fun x16=>bif x16.2 then(bif (!decide (a2.FKind=(5:Int))) then(((fields_fits_n n) a0 x16.1 a2).bind fun x23=>some x23) else((Z105 a2.FItems (fun y0=>(fields_fits_1_n n) y0 a0 x16.1)).bind fun x25=>some (!x25))) else(bif ((a1.FName==([73,110,116]:Bs))) then(some (((decide (a2.FKind=(2:Int)))&&(decide ((-2147483648:Int)<=a2.FInt)))&&(decide (a2.FInt<(2147483648:Int))))) else(bif ((a1.FName==([83,116,114,105,110,103]:Bs))) then(some (decide (a2.FKind=(3:Int)))) else(bif ((a1.FName==([66,111,111,108,101,97,110]:Bs))) then(some (decide (a2.FKind=(1:Int)))) else(bif ((a1.FName==([73,68]:Bs))) then(some ((decide (a2.FKind=(3:Int)))||(decide (a2.FKind=(2:Int))))) else((Z88 a0 a1.FName).bind fun x41=>bif (decide (x41.1.FKind=(4:Int))) then(guardO ((decide (a2.FKind=(4:Int)))) (Z107 x41.1.FMembers (fun y0=>Z32 y0 a2)) false fun x46=>some ((decide (a2.FKind=(4:Int)))&&x46)) else(guardO ((decide (a2.FKind=(6:Int)))) ((Z35_n n) a0 x41.1 a2) false fun x48=>some ((decide (a2.FKind=(6:Int)))&&x48))))))))))
def fields_fits_1_n:Nat->Z10->TDoc->TRef->Option Bool
 | 0,_,_,_=>none
 | n+1,a0,a1,a2=>((fields_fits_n n) a1 a2 a0).bind fun x3=>some (!x3)
def Z35_n:Nat->TDoc->TDef->Z10->Option Bool
 | 0,_,_,_=>none
 | n+1,a0,a1,a2=>Z35_l7 a0 a1 a2 (fields_fits_n n) (a2.FKeys.l.length+1) 0
end
theorem fields_fits_step (n:Nat) (ih_111:∀{a0:TDoc}{a1:TRef}{a2:Z10}{r:Bool},fields_fits_n n a0 a1 a2=some r->∀(H:Heap),ACalls Tryz.prog 111 [.agg (TDoc.c a0),.agg (TRef.c a1),.agg (Z10.c a2)] H fun v h'=>v=.a (.d (.bool r))/\h'=H) (ih_116:∀{a0:Z10}{a1:TDoc}{a2:TRef}{r:Bool},fields_fits_1_n n a0 a1 a2=some r->∀(H:Heap),ACalls Tryz.prog 116 [.agg (Z10.c a0),.d (.view (TDoc.c a1)),.d (.view (TRef.c a2))] H fun v h'=>v=.a (.d (.bool r))/\h'=H) (ih_118:∀{a0:TDoc}{a1:TDef}{a2:Z10}{r:Bool},Z35_n n a0 a1 a2=some r->∀(H:Heap),ACalls Tryz.prog 118 [.agg (TDoc.c a0),.agg (TDef.c a1),.agg (Z10.c a2)] H fun v h'=>v=.a (.d (.bool r))/\h'=H):∀{a0:TDoc}{a1:TRef}{a2:Z10}{r:Bool},fields_fits_n (n+1) a0 a1 a2=some r->∀(H:Heap),ACalls Tryz.prog 111 [.agg (TDoc.c a0),.agg (TRef.c a1),.agg (Z10.c a2)] H fun v h'=>v=.a (.d (.bool r))/\h'=H:=by
 intro a0 a1 a2   r hE H ;rw [fields_fits_n] at hE;refine ACalls.oW 111 [.tmp 6] Tryz.call111 Tryz.func111 ?_;refine seqR (S BX (S BX (S BX (S As (nil ?_)))));refine seqK fun K2 hK2=>?_;refine block ?_;refine seqR (S Fv (S Ld (S BI (S As (nil ?_)))));refine cE hE (fun hc4 hE=>?_) (fun hc4 hE=>?_)
 ·refine seqR (S As (nil ?_));exact rt hE
 refine seqR (S Ld (S Fv (S Ld ?_)));obtain⟨x7,gx7,hE⟩:=bO hE;refine Sc rfl rfl (Z90_walk gx7) ?_;refine S NB (S As (nil ?_));refine cE hE (fun hc8 hE=>?_) (fun hc8 hE=>?_)
 ·refine seqR (S As (nil ?_));exact rt hE
 refine seqR (S Fv (S Ld (S BI (S As (nil ?_)))));refine cE hE (fun hc11 hE=>?_) (fun hc11 hE=>?_)
 ·refine seqR (S Ld ?_);obtain⟨x13,gx13,hE⟩:=bO hE;refine Sc rfl rfl (Z123_walk gx13) ?_;refine S NB (S As (nil ?_));exact rt hE
 refine sk hK2 ?_;clear hK2 K2;refine seqK fun K14 hK14=>?_;refine seqR (S Ld ?_);obtain⟨x16,gx16,hE⟩:=bO hE;refine Sc rfl rfl (Z121_walk gx16) ?_;refine S Mv (S EX (S EX ?_));refine Sl ?_;refine Sf ?_;refine S As (nil ?_);refine freezeA 7 _ rfl (KA 3 (KA 4 (KA 5 (KA 8 Keeps.nil)))) ?_;refine seqR (S Mv (nil ?_));refine cE hE (fun hc18 hE=>?_) (fun hc18 hE=>?_)
 ·refine seqK fun K19 hK19=>?_;refine seqR (S Fv (S Ld (S BI (nil ?_))));refine cE hE (fun hc21 hE=>?_) (fun hc21 hE=>?_)
  ·refine seqR (S Ld (S Ld (S Ld ?_)));obtain⟨x23,gx23,hE⟩:=bO hE;refine Sc rfl rfl (ih_111 gx23) ?_;refine S As (nil ?_);exact rt hE
  refine sk hK19 ?_;clear hK19 K19;refine seqR (S Fv ?_);refine s0 (loadV (TK rfl) rfl rfl (congrArg (fun x=>some (A.d x)) (Z10.FItemsD_eq _))) rfl ?_;refine s0 (makeFunc rfl) rfl ?_;obtain⟨x25,gx25,hE⟩:=bO hE;refine s0 (callP rfl rfl (fun H=>Z105_walk gx25 H (fun _ _ hx=>ih_116 hx))) rfl ?_;refine S NB (S As (nil ?_));exact rt hE
 refine sk hK14 ?_;clear hK14 K14;refine seqK fun K26 hK26=>?_;refine seqR (S Fv (S Ld (nil ?_)));refine block ?_;refine seqR (S BS (S As (nil ?_)));refine cE hE (fun hc29 hE=>?_) (fun hc29 hE=>?_)
 ·refine seqR (S Fv (S Ld (S BI (S Mv (G0 Fv ?_)))));refine G1 54 rfl Ld ?_;refine G1 55 rfl BI ?_;refine S PA (S Mv (G0 Fv ?_));refine G1 59 rfl Ld ?_;refine G1 60 rfl BI ?_;refine S PA (S As (nil ?_));exact rt hE
 refine seqR (S BS (S As (nil ?_)));refine cE hE (fun hc32 hE=>?_) (fun hc32 hE=>?_)
 ·refine seqR (S Fv (S Ld (S BI (S As (nil ?_)))));exact rt hE
 refine seqR (S BS (S As (nil ?_)));refine cE hE (fun hc35 hE=>?_) (fun hc35 hE=>?_)
 ·refine seqR (S Fv (S Ld (S BI (S As (nil ?_)))));exact rt hE
 refine seqR (S BS (S As (nil ?_)));refine cE hE (fun hc38 hE=>?_) (fun hc38 hE=>?_)
 ·refine seqR (S Fv (S Ld (S BI (S Mv (G0 Fv ?_)))));refine G1 79 rfl Ld ?_;refine G1 80 rfl BI ?_;refine S PO (S As (nil ?_));exact rt hE
 refine sk hK26 ?_;clear hK26 K26;refine seqR (S Ld (S Fv (S Ld ?_)));obtain⟨x41,gx41,hE⟩:=bO hE;refine Sc rfl rfl (Z88_walk gx41) ?_;refine S Mv (S EX (S EX ?_));refine Sl ?_;refine Sf ?_;refine S As (nil ?_);refine freezeA 9 _ rfl (KA 3 (KA 5 Keeps.nil)) ?_;refine seqK fun K42 hK42=>?_;refine seqR (S Fv (S Ld (S BI (nil ?_))));refine cE hE (fun hc44 hE=>?_) (fun hc44 hE=>?_)
 ·refine seqR (S Fv (S Ld (S BI (S Mv (G0 Fv ?_)))));refine G1 97 rfl Ld ?_;refine gC rfl rfl (fun hC=>makeFunc rfl) rfl ?_;obtain⟨x46,gx46,hE⟩:=gO hE;refine gC rfl rfl (fun hC=>ungdA (k:=98) rfl (ungdA (k:=99) rfl (callP rfl rfl (fun H=>Z107_walk (gx46 hC) H (fun _ _ hx=>Z32_walk hx))))) rfl ?_;refine S PA (S As (nil ?_));exact rt hE
 refine sk hK42 ?_;clear hK42 K42;refine seqR (S Fv (S Ld (S BI (S Mv (G0 Ld (G0 Ld (G0 Ld ?_)))))));obtain⟨x48,gx48,hE⟩:=gO hE;refine gC rfl rfl (fun hC=>ungdA (k:=106) rfl (ungdA (k:=107) rfl (ungdA (k:=108) rfl (callP rfl rfl (fun H=>ih_118 (gx48 hC) H))))) rfl ?_;refine S PA (S As (nil ?_));exact rt hE
theorem fields_fits_1_step (n:Nat) (ih_111:∀{a0:TDoc}{a1:TRef}{a2:Z10}{r:Bool},fields_fits_n n a0 a1 a2=some r->∀(H:Heap),ACalls Tryz.prog 111 [.agg (TDoc.c a0),.agg (TRef.c a1),.agg (Z10.c a2)] H fun v h'=>v=.a (.d (.bool r))/\h'=H) (ih_116:∀{a0:Z10}{a1:TDoc}{a2:TRef}{r:Bool},fields_fits_1_n n a0 a1 a2=some r->∀(H:Heap),ACalls Tryz.prog 116 [.agg (Z10.c a0),.d (.view (TDoc.c a1)),.d (.view (TRef.c a2))] H fun v h'=>v=.a (.d (.bool r))/\h'=H) (ih_118:∀{a0:TDoc}{a1:TDef}{a2:Z10}{r:Bool},Z35_n n a0 a1 a2=some r->∀(H:Heap),ACalls Tryz.prog 118 [.agg (TDoc.c a0),.agg (TDef.c a1),.agg (Z10.c a2)] H fun v h'=>v=.a (.d (.bool r))/\h'=H):∀{a0:Z10}{a1:TDoc}{a2:TRef}{r:Bool},fields_fits_1_n (n+1) a0 a1 a2=some r->∀(H:Heap),ACalls Tryz.prog 116 [.agg (Z10.c a0),.d (.view (TDoc.c a1)),.d (.view (TRef.c a2))] H fun v h'=>v=.a (.d (.bool r))/\h'=H:=by
 intro a0 a1 a2   r hE H ;rw [fields_fits_1_n] at hE;refine ACalls.oW 10 [.tmp 4] Tryz.call116 Tryz.func116 ?_;refine seqR (S BX (S As (nil ?_)));refine seqR (S Ld (S Ld (S Ld ?_)));obtain⟨x3,gx3,hE⟩:=bO hE;refine Sc rfl rfl (ih_111 gx3) ?_;refine S NB (S As (nil ?_));exact rt hE
theorem Z35_step (n:Nat) (ih_111:∀{a0:TDoc}{a1:TRef}{a2:Z10}{r:Bool},fields_fits_n n a0 a1 a2=some r->∀(H:Heap),ACalls Tryz.prog 111 [.agg (TDoc.c a0),.agg (TRef.c a1),.agg (Z10.c a2)] H fun v h'=>v=.a (.d (.bool r))/\h'=H) (ih_116:∀{a0:Z10}{a1:TDoc}{a2:TRef}{r:Bool},fields_fits_1_n n a0 a1 a2=some r->∀(H:Heap),ACalls Tryz.prog 116 [.agg (Z10.c a0),.d (.view (TDoc.c a1)),.d (.view (TRef.c a2))] H fun v h'=>v=.a (.d (.bool r))/\h'=H) (ih_118:∀{a0:TDoc}{a1:TDef}{a2:Z10}{r:Bool},Z35_n n a0 a1 a2=some r->∀(H:Heap),ACalls Tryz.prog 118 [.agg (TDoc.c a0),.agg (TDef.c a1),.agg (Z10.c a2)] H fun v h'=>v=.a (.d (.bool r))/\h'=H):∀{a0:TDoc}{a1:TDef}{a2:Z10}{r:Bool},Z35_n (n+1) a0 a1 a2=some r->∀(H:Heap),ACalls Tryz.prog 118 [.agg (TDoc.c a0),.agg (TDef.c a1),.agg (Z10.c a2)] H fun v h'=>v=.a (.d (.bool r))/\h'=H:=by
 intro a0 a1 a2   r hE H ;rw [Z35_n] at hE;refine ACalls.oW 53 [.tmp 6] Tryz.call118 Tryz.func118 ?_;refine seqR (S BX (S BX (S BX (S As (nil ?_)))));refine seqJH (TA 4 (TA 5 KeepsT.nil)) (fun(z:Unit)=>[]) (fun z=>H) (fun z=>Z35_j2 a1 a2 =some r) ?_ ?_
 ·intro K2 hK2;refine seqR (S Fv (S Ld ?_));refine sLen (f:=strE) (s:=a2.FKeys) (TK rfl) rfl rfl rfl rfl fun hL6=>?_;refine S Mv (nil ?_);refine block ?_;refine loopH (TA 3 (TA 4 (TA 5 (TA 12 (TA 13 KeepsT.nil))))) (fun(z:Nat×Nat)=>[(14,.a (.d (.int .i64 ((z.2:Nat):Int))))]) (fun z=>H) (fun z=>z.1) (fun z=>Z35_l7 a0 a1 a2 (fields_fits_n n) z.1 z.2=some r) ((a2.FKeys.l.length+1),0) hE Weak.toA ?_;rintro ⟨n7,s14_8⟩ hE K7 hK7
  try dsimp only at hE
  cases n7 with
  | zero=>cases hE
  | succ n7 =>
    rw [Z35_l7] at hE;refine seqR (S BI (nil ?_));refine seqK fun K10 hK10=>?_;refine cE hE (fun hc11 hE=>?_) (fun hc11 hE=>?_)
    ·try dsimp only at hc11
     have hf11:=of_decide_eq_true hc11;refine sk hK10 ?_;clear hK10 K10;refine seqK fun K12 hK12=>?_;refine block ?_;refine seqR (S Mv ?_);obtain⟨x14,gx14,hE⟩:=bO hE;refine S (ix strE s14_8 gx14) (S Ld (S As (S As (nil ?_))));refine seqR (S Fv (S Ld (S Mv ?_)));obtain⟨x16,gx16,hE⟩:=bO hE;refine Sc rfl rfl (Z89_walk gx16) ?_;refine S Mv (S EX (S EX ?_));refine Sl ?_;refine Sf ?_;refine S As (nil ?_)
     refine freezeA 9 _ rfl (KA 3 (KA 4 (KA 5 (KA 7 (KA 10 (KA 12 (KA 13 (KA 14 Keeps.nil)))))))) ?_;refine AWp.seqD (Sd Mv (Sd NB (Sd Mv (G0d Mv (G0d Fv ?_)))));refine DOps.gC rfl rfl (fun hC=>ungdA (k:=30) rfl (loadV (TK rfl) rfl rfl (congrArg (fun x=>some (A.d x)) (Z10.FItemsD_eq _)))) rfl ?_;refine DOps.gC rfl rfl (fun hC=>ungdA (k:=31) rfl (lenM' (f:=Z10.c) (s:=a2.FItems) (TK rfl) rfl rfl rfl)) rfl ?_
     refine G2d 29 32 rfl rfl BI ?_;refine Sd PO (Sd Mv (G0d Ld (G0d Fv ?_)));refine G1d 37 rfl Ld ?_;refine G0d Fv ?_;refine DOps.gC rfl rfl (fun hC=>ungdA (k:=39) rfl (loadV (TK rfl) rfl rfl (congrArg (fun x=>some (A.d x)) (Z10.FItemsD_eq _)))) rfl ?_;refine G0d Mv ?_;obtain⟨x18,gx18,hE⟩:=gO hE;refine DOps.gC rfl rfl (fun hC=>ungdA (k:=40) rfl (ungdA (k:=41) rfl (idxMn (f:=Z10.c) (n:=s14_8) (TK rfl) rfl (TK rfl) rfl rfl rfl (gx18 hC)))) rfl ?_
     refine G1d 42 rfl Ld ?_;obtain⟨x19,gx19,hE⟩:=gO hE;refine DOps.gC rfl rfl (fun hC=>ungdA (k:=36) rfl (ungdA (k:=38) rfl (ungdA (k:=43) rfl (callP rfl rfl (fun H=>ih_111 (gx19 hC) H))))) rfl ?_;refine G1d 44 rfl NB ?_;refine Sd PO ?_;refine DOps.nil (by decide +kernel) ?_;refine cE hE (fun hc20 hE=>?_) (fun hc20 hE=>?_)
     ·refine seqR (S As (nil ?_));exact rt hE
     refine sk hK12 ?_;clear hK12 K12;refine region ?_;refine SI ?_;refine S Mv (nil ?_);exact hK7 _ (n7,(s14_8+1)) Weak.toA hE (Nat.lt_succ_self _)
    refine AWp.exit ?_;exact hK2 _ () Weak.toA hE
 rintro _ hE;try dsimp only at hE
 unfold Z35_j2 at hE;refine seqR (S Fv (S Ld ?_));refine s0 (makeFunc rfl) rfl ?_;obtain⟨x4,gx4,hE⟩:=bO hE;refine s0 (callP rfl rfl (fun H=>Z108_walk gx4 H (fun _ _ hx=>Z36_walk hx))) rfl ?_;refine S NB (S As (nil ?_));exact rt hE
theorem fields_fits_all:∀(n:Nat),(∀{a0:TDoc}{a1:TRef}{a2:Z10}{r:Bool},fields_fits_n n a0 a1 a2=some r->∀(H:Heap),ACalls Tryz.prog 111 [.agg (TDoc.c a0),.agg (TRef.c a1),.agg (Z10.c a2)] H fun v h'=>v=.a (.d (.bool r))/\h'=H)/\(∀{a0:Z10}{a1:TDoc}{a2:TRef}{r:Bool},fields_fits_1_n n a0 a1 a2=some r->∀(H:Heap),ACalls Tryz.prog 116 [.agg (Z10.c a0),.d (.view (TDoc.c a1)),.d (.view (TRef.c a2))] H fun v h'=>v=.a (.d (.bool r))/\h'=H)/\(∀{a0:TDoc}{a1:TDef}{a2:Z10}{r:Bool},Z35_n n a0 a1 a2=some r->∀(H:Heap),ACalls Tryz.prog 118 [.agg (TDoc.c a0),.agg (TDef.c a1),.agg (Z10.c a2)] H fun v h'=>v=.a (.d (.bool r))/\h'=H)
 | 0=>⟨fun hE=>by first|cases hE|(rw [fields_fits_n] at hE; cases hE),fun hE=>by first|cases hE|(rw [fields_fits_1_n] at hE; cases hE),fun hE=>by first|cases hE|(rw [Z35_n] at hE; cases hE)⟩
 | n+1=>⟨fields_fits_step n (fields_fits_all n).1 (fields_fits_all n).2.1 (fields_fits_all n).2.2,fields_fits_1_step n (fields_fits_all n).1 (fields_fits_all n).2.1 (fields_fits_all n).2.2,Z35_step n (fields_fits_all n).1 (fields_fits_all n).2.1 (fields_fits_all n).2.2⟩
def fields_fits (a0:TDoc) (a1:TRef) (a2:Z10):Option Bool:=fields_fits_n F0 a0 a1 a2
theorem fields_fits_walk {a0:TDoc}{a1:TRef}{a2:Z10}{r:Bool}(hE:fields_fits a0 a1 a2=some r) (H:Heap) :ACalls Tryz.prog 111 [.agg (TDoc.c a0),.agg (TRef.c a1),.agg (Z10.c a2)] H fun v h'=>v=.a (.d (.bool r))/\h'=H:=(fields_fits_all F0).1 hE H 
def Z30_j9 (s20_4:Nat) (k_next_3:Nat->Z1->Option Z1) (y10_c0:Z1):Option Z1:=k_next_3 (s20_4+1) y10_c0
def Z30_l3 (a1:(Sl Z7)) (a2:(Sl TArg)) (a3:Bool) (a4:Bs) :Nat->Nat->Z1->Option Z1
 | 0,_,_=>none
 | n3+1,s20_4,y5_c0=>bif (decide (((s20_4:Nat):Int)<((a2.l.length:Nat):Int))) then((a2.l[s20_4]?).bind fun x12=>(Z89 a1 x12.FName).bind fun x14=>(partC a2 none (some ((s20_4:Nat):Int))).bind fun x16=>(Z33 x16 x12.FName).bind fun x17=>bif ((!x14.2)||x17.2) then((Z26 y5_c0 true (22:Int) a4).bind fun x22=>Z30_j9 s20_4 ((Z30_l3 a1 a2 a3 a4 n3)) x22) else((fields_fits y5_c0.Fd x14.1.FType x12.FValue).bind fun x23=>(Z26 y5_c0 ((!x23)||(a3&&(((decide (x12.FValue.FKind=(7:Int)))||((decide (x12.FValue.FKind=(3:Int)))&&((x12.FValue.FText==([]:Bs)))))||((decide (x12.FValue.FKind=(2:Int)))&&(decide (x12.FValue.FInt<(0:Int))))))) (23:Int) a4).bind fun x24=>Z30_j9 s20_4 ((Z30_l3 a1 a2 a3 a4 n3)) x24)) else(some y5_c0)
def Z30 (a0:Z1) (a1:(Sl Z7)) (a2:(Sl TArg)) (a3:Bool) (a4:Bs):Option Z1:=Z30_l3 a1 a2 a3 a4 (a2.l.length+1) 0 a0
theorem Z30_walk {a0:Z1}{a1:Sl Z7}{a2:Sl TArg}{a3:Bool}{a4:Bs}{w1 w2:Option Nat}{c0 c0_2:Nat}{r:Z1}(hE:Z30 a0 a1 a2 a3 a4=some r) (H:Heap) (hc0:H c0=some (.cells (Z1.cg (some c0_2) a0))) (ht0_2:H c0_2=some (.tok 2 a0.Fout.l.length)):ACalls Tryz.prog 91 [.d (.ptr c0 0),.d (Sl.d 10 Z7.c w1 a1),.d (Sl.d 6 TArg.c w2 a2),.d (.bool a3),.d (.str a4)] H fun v h'=>v=.tup []/\h'=((H.set c0_2 (some (.tok 2 r.Fout.l.length))).set c0 (some (.cells (Z1.cg (some c0_2) r)))):=by
 unfold Z30 at hE;refine ACalls.oW 94 [] Tryz.call91 Tryz.func91 ?_;have ne_c0_c0_2:c0≠c0_2:=fun e_=>by subst e_; simp_all
 refine AWp.heqA (h':=((H.set c0_2 (some (.tok 2 a0.Fout.l.length))).set c0 (some (.cells (Z1.cg (some c0_2) a0))))) (by funext n_; simp only [Heap.set]; (repeat' split)<;>simp_all) ?_;refine seqR (S Mv ?_);refine sLen (f:=TArg.c) (s:=a2) (TK rfl) rfl rfl rfl rfl fun hL2=>?_;refine S Mv (nil ?_);refine block ?_;refine loopH (TA 0 (TA 1 (TA 2 (TA 3 (TA 4 (TA 18 (TA 19 KeepsT.nil))))))) (fun(z:Nat×Nat×Z1)=>[(20,.a (.d (.int .i64 ((z.2.1:Nat):Int))))]) (fun z=>((H.set c0_2 (some (.tok 2 z.2.2.Fout.l.length))).set c0 (some (.cells (Z1.cg (some c0_2) z.2.2))))) (fun z=>z.1) (fun z=>Z30_l3 a1 a2 a3 a4 z.1 z.2.1 z.2.2=some r) ((a2.l.length+1),0,a0) hE Weak.toA ?_
 rintro ⟨n3,s20_4,y5_c0⟩ hE K3 hK3;try dsimp only at hE
 cases n3 with
 | zero=>cases hE
 | succ n3 =>
   rw [Z30_l3] at hE;refine seqR (S BI (nil ?_));refine seqK fun K7 hK7=>?_;refine cE hE (fun hc8 hE=>?_) (fun hc8 hE=>?_)
   ·try dsimp only at hc8
    have hf8:=of_decide_eq_true hc8;refine sk hK7 ?_;clear hK7 K7;refine seqJH (TA 0 (TA 1 (TA 2 (TA 3 (TA 4 (TA 18 (TA 19 (TA 20 KeepsT.nil)))))))) (fun(z:Z1)=>[]) (fun z=>((H.set c0_2 (some (.tok 2 z.Fout.l.length))).set c0 (some (.cells (Z1.cg (some c0_2) z))))) (fun z=>Z30_j9 s20_4 ((Z30_l3 a1 a2 a3 a4 n3)) z=some r) ?_ ?_
    ·intro K9 hK9;refine block ?_;refine seqR (S Mv ?_);obtain⟨x12,gx12,hE⟩:=bO hE;refine S (ix TArg.c s20_4 gx12) (S Ld ?_);refine Sl ?_;refine S As ?_;refine Sf ?_;refine nil ?_;refine freezeA 11 _ rfl (KA 0 (KA 1 (KA 2 (KA 3 (KA 4 (KA 10 (KA 18 (KA 19 (KA 20 Keeps.nil))))))))) ?_;refine seqR (S Mv (S Fv (S Ld ?_)));obtain⟨x14,gx14,hE⟩:=bO hE;refine Sc rfl rfl (Z89_walk gx14) ?_;refine S Mv (S EX (S EX ?_))
     refine Sl ?_;refine Sf ?_;refine S As (nil ?_);refine freezeA 12 _ rfl (KA 0 (KA 1 (KA 2 (KA 3 (KA 4 (KA 10 (KA 11 (KA 13 (KA 18 (KA 19 (KA 20 Keeps.nil))))))))))) ?_;refine AWp.seqD (Sd Mv (Sd Mv ?_));obtain⟨x16,gx16,hE⟩:=bO hE;refine DOps.s0 (partM (f:=TArg.c) (l:=none) (r:=(some ((s20_4:Nat):Int))) (TK rfl) rfl (TK rfl) rfl rfl trivial rfl gx16) rfl ?_;refine Sd Fv (Sd Ld ?_);obtain⟨x17,gx17,hE⟩:=bO hE
     refine Scd rfl rfl (Z33_walk gx17) ?_;refine Sd Mv (Sd EX (Sd EX ?_));refine DOps.sB (TK rfl) rfl rfl ?_ (by repeat (first|exact Snoc.nil|apply Snoc.cons));refine DOps.sLn (storeLFA (TK rfl) rfl rfl rfl rfl rfl) ?_;refine Sd As ?_;refine DOps.nil (by decide +kernel) ?_;refine freezeA 14 _ rfl (KA 0 (KA 1 (KA 2 (KA 3 (KA 4 (KA 11 (KA 12 (KA 13 (KA 15 (KA 18 (KA 19 (KA 20 Keeps.nil)))))))))))) ?_
     refine seqR (S Fv (S Ld ?_));refine Sl ?_;refine Sf ?_;refine nil ?_;refine freezeA 16 _ rfl (KA 0 (KA 1 (KA 2 (KA 3 (KA 4 (KA 12 (KA 13 (KA 15 (KA 18 (KA 19 (KA 20 Keeps.nil))))))))))) ?_;refine seqR (S Fv (S Ld (S BI (S Mv (G0 Fv ?_)))));refine G1 47 rfl Ld ?_;refine G1 48 rfl BI ?_;refine G1 49 rfl Mv ?_;refine G0 Fv ?_;refine G1 51 rfl Ld ?_;refine G1 52 rfl BS ?_;refine gC rfl rfl (fun hC=>ungdA (k:=50) rfl (pickAndA rfl rfl rfl)) rfl ?_
     refine S PO (S Mv (G0 Fv ?_));refine G1 57 rfl Ld ?_;refine G1 58 rfl BI ?_;refine G1 59 rfl Mv ?_;refine G0 Fv ?_;refine G1 61 rfl Ld ?_;refine G1 62 rfl BI ?_;refine gC rfl rfl (fun hC=>ungdA (k:=60) rfl (pickAndA rfl rfl rfl)) rfl ?_;refine S PO (S As (nil ?_));refine block ?_;refine seqR (S Mv (S NB (S Mv (G0 Mv (S PO (S As (nil ?_)))))));refine cE hE (fun hc21 hE=>?_) (fun hc21 hE=>?_)
     ·refine region ?_;refine S Mv (S Mv ?_);obtain⟨x22,gx22,hE⟩:=bO hE;refine sH (callH rfl rfl (Z26_walk gx22 _ hpG hpG)) rfl ?_;refine hq ((H.set c0_2 (some (.tok 2 x22.Fout.l.length))).set c0 (some (.cells (Z1.cg (some c0_2) x22)))) ?_;refine nil ?_;exact hK9 _ x22 Weak.toA hE
     refine AWp.draw rfl ?_;refine Sd Mv (Sd Mv (Sd NP ?_));refine DOps.s0 (fieldP (TK rfl) rfl rfl (TK rfl) rfl rfl) rfl ?_;refine DOps.s0 (loadP (TK rfl) rfl rfl hpG rfl) rfl ?_;refine Sd Fv (Sd Ld (Sd Ld ?_));obtain⟨x23,gx23,hE⟩:=bO hE;refine Scd rfl rfl (fields_fits_walk gx23) ?_;refine Sd NB (Sd Mv (G0d Mv ?_));refine G1d 77 rfl Mv ?_;refine G0d Mv ?_;refine DOps.gC rfl rfl (fun hC=>ungdA (k:=78) rfl (pickAndA rfl rfl rfl)) rfl ?_
     refine Sd PO (Sd Mv ?_);obtain⟨x24,gx24,hE⟩:=bO hE;refine DOps.sH (callH rfl rfl (Z26_walk gx24 _ hpG hpG)) rfl ?_;refine DOps.Dh ((H.set c0_2 (some (.tok 2 x24.Fout.l.length))).set c0 (some (.cells (Z1.cg (some c0_2) x24)))) ?_;refine DOps.nil (by decide +kernel) ?_;exact hK9 _ x24 Weak.toA hE
    rintro y10_c0 hE;try dsimp only at hE
    unfold Z30_j9 at hE;refine region ?_;refine SI ?_;refine S Mv (nil ?_);exact hK3 _ (n3,(s20_4+1),y10_c0) Weak.toA hE (Nat.lt_succ_self _)
   refine AWp.exit ?_;repeat (first|refine xBlock_normal ?_|refine xThen_exit ?_|refine xBlock_exit ?_)
   obtain rfl:=Option.some.inj hE;refine retQ.normalF ((H.set c0_2 (some (.tok 2 y5_c0.Fout.l.length))).set c0 (some (.cells (Z1.cg (some c0_2) y5_c0)))) (xs:=[]) rfl ⟨rfl,rfl⟩ ?_;exact(fun _ _ h=>h)
end Go.Proofs

namespace Go.Proofs
open Go Go.Ab
open AOps Cert AWp Keeps KeepsT
variable {lou:Lou}
def Z27_j10 (s21_5:Nat) (k_next_4:Nat->Z1->Option Z1) (y11_c0:Z1):Option Z1:=k_next_4 (s21_5+1) y11_c0
def Z27_l30 (a4:Bs) (s21_5:Nat) (x13:TDir) (s13_18:(Sl Z7)) (k_next_4:Nat->Z1->Option Z1):Nat->Nat->Z1->Option Z1
 | 0,_,_=>none
 | n30+1,s78_31,y32_c0=>bif (decide (((s78_31:Nat):Int)<((s13_18.l.length:Nat):Int))) then((s13_18.l[s78_31]?).bind fun x38=>(Z33 x13.FArgs x38.FName).bind fun x40=>(Z26 y32_c0 (!x40.2) (22:Int) a4).bind fun x41=>(Z27_l30 a4 s21_5 x13 s13_18 k_next_4 n30) (s78_31+1) x41) else(Z27_j10 s21_5 k_next_4 y32_c0)
def Z27_j17 (a1:TSel) (a4:Bs) (s21_5:Nat) (y6_c0:Z1) (x13:TDir) (k_next_4:Nat->Z1->Option Z1) (s13_18:(Sl Z7)):Option Z1:=guardO (!s13_18.nl) (partC a1.FDirs none (some ((s21_5:Nat):Int))) (Sl.nil:Sl TDir) fun x21=>guardO (!s13_18.nl) (Z106 x21 (fun y0=>Z28 y0 x13)) false fun x22=>bif (s13_18.nl||x22) then((Z26 y6_c0 true (29:Int) a4).bind fun x25=>Z27_j10 s21_5 k_next_4 x25) else((Z30 y6_c0 s13_18 x13.FArgs (((x13.FName==([100,101,102,101,114]:Bs)))||((x13.FName==([115,116,114,101,97,109]:Bs)))) a4).bind fun x27=>Z27_l30 a4 s21_5 x13 s13_18 k_next_4 (s13_18.l.length+1) 0 x27)
def Z27_l4 (a1:TSel) (a2:TRef) (a3:Bool) (a4:Bs) :Nat->Nat->Z1->Option Z1
 | 0,_,_=>none
 | n4+1,s21_5,y6_c0=>bif (decide (((s21_5:Nat):Int)<((a1.FDirs.l.length:Nat):Int))) then((a1.FDirs.l[s21_5]?).bind fun x13=>(Z25 x13.FName ((!decide (a1.FKind=(2:Int)))&&(!decide (a1.FKind=(3:Int))))).bind fun x16=>guardO ((((x13.FName==([115,116,114,101,97,109]:Bs)))&&a3)) (Z122 a2) false fun x43=>bif ((((x13.FName==([115,116,114,101,97,109]:Bs)))&&a3)&&(!x43)) then(Z27_j17 a1 a4 s21_5 y6_c0 x13 ((Z27_l4 a1 a2 a3 a4 n4)) (Sl.nil:Sl Z7)) else(Z27_j17 a1 a4 s21_5 y6_c0 x13 ((Z27_l4 a1 a2 a3 a4 n4)) x16)) else(some y6_c0)
def Z27 (a0:Z1) (a1:TSel) (a2:TRef) (a3:Bool) (a4:Bs):Option Z1:=Z27_l4 a1 a2 a3 a4 (a1.FDirs.l.length+1) 0 a0
theorem Z27_walk {a0:Z1}{a1:TSel}{a2:TRef}{a3:Bool}{a4:Bs}{c0 c0_2:Nat}{r:Z1}(hE:Z27 a0 a1 a2 a3 a4=some r) (H:Heap) (hc0:H c0=some (.cells (Z1.cg (some c0_2) a0))) (ht0_2:H c0_2=some (.tok 2 a0.Fout.l.length)):ACalls Tryz.prog 58 [.d (.ptr c0 0),.agg (TSel.c a1),.agg (TRef.c a2),.d (.bool a3),.d (.str a4)] H fun v h'=>v=.tup []/\h'=((H.set c0_2 (some (.tok 2 r.Fout.l.length))).set c0 (some (.cells (Z1.cg (some c0_2) r)))):=by
 unfold Z27 at hE;refine ACalls.oW 97 [] Tryz.call58 Tryz.func58 ?_;have ne_c0_c0_2:c0≠c0_2:=fun e_=>by subst e_; simp_all
 refine AWp.heqA (h':=((H.set c0_2 (some (.tok 2 a0.Fout.l.length))).set c0 (some (.cells (Z1.cg (some c0_2) a0))))) (by funext n_; simp only [Heap.set]; (repeat' split)<;>simp_all) ?_;refine seqR (S BX (S BX (nil ?_)));refine seqR (S Fv (S Ld ?_));refine sLen (f:=TDir.c) (s:=a1.FDirs) (TK rfl) rfl rfl rfl rfl fun hL3=>?_;refine S Mv (nil ?_);refine block ?_;refine loopH (TA 0 (TA 3 (TA 4 (TA 6 (TA 7 (TA 19 (TA 20 KeepsT.nil))))))) (fun(z:Nat×Nat×Z1)=>[(21,.a (.d (.int .i64 ((z.2.1:Nat):Int))))]) (fun z=>((H.set c0_2 (some (.tok 2 z.2.2.Fout.l.length))).set c0 (some (.cells (Z1.cg (some c0_2) z.2.2))))) (fun z=>z.1) (fun z=>Z27_l4 a1 a2 a3 a4 z.1 z.2.1 z.2.2=some r) ((a1.FDirs.l.length+1),0,a0) hE Weak.toA ?_
 rintro ⟨n4,s21_5,y6_c0⟩ hE K4 hK4;try dsimp only at hE
 cases n4 with
 | zero=>cases hE
 | succ n4 =>
   rw [Z27_l4] at hE;refine seqR (S BI (nil ?_));refine seqK fun K8 hK8=>?_;refine cE hE (fun hc9 hE=>?_) (fun hc9 hE=>?_)
   ·try dsimp only at hc9
    have hf9:=of_decide_eq_true hc9;refine sk hK8 ?_;clear hK8 K8;refine seqJH (TA 0 (TA 3 (TA 4 (TA 6 (TA 7 (TA 19 (TA 20 (TA 21 KeepsT.nil)))))))) (fun(z:Z1)=>[]) (fun z=>((H.set c0_2 (some (.tok 2 z.Fout.l.length))).set c0 (some (.cells (Z1.cg (some c0_2) z))))) (fun z=>Z27_j10 s21_5 ((Z27_l4 a1 a2 a3 a4 n4)) z=some r) ?_ ?_
    ·intro K10 hK10;refine block ?_;refine seqR (S Mv ?_);obtain⟨x13,gx13,hE⟩:=bO hE;refine S (ix TDir.c s21_5 gx13) (S Ld ?_);refine Sl ?_;refine S As ?_;refine Sf ?_;refine nil ?_;refine freezeA 11 _ rfl (KA 0 (KA 3 (KA 4 (KA 6 (KA 7 (KA 10 (KA 19 (KA 20 (KA 21 Keeps.nil))))))))) ?_;refine seqR (S Fv (S Ld (S BI (S Mv (G0 Fv ?_)))));refine G1 30 rfl Ld ?_;refine G1 31 rfl BI ?_;refine S PA (S As (nil ?_))
     refine seqR (S Fv (S Ld (S Mv ?_)));obtain⟨x16,gx16,hE⟩:=bO hE;refine Sc rfl rfl (Z25_walk gx16) ?_;refine S As (nil ?_);refine seqJH (TA 0 (TA 3 (TA 4 (TA 6 (TA 7 (TA 10 (TA 11 (TA 19 (TA 20 (TA 21 KeepsT.nil)))))))))) (fun(z:(Sl Z7))=>[(13,.a (.d (Sl.d 10 Z7.c none z)))]) (fun z=>((H.set c0_2 (some (.tok 2 y6_c0.Fout.l.length))).set c0 (some (.cells (Z1.cg (some c0_2) y6_c0))))) (fun z=>Z27_j17 a1 a4 s21_5 y6_c0 x13 ((Z27_l4 a1 a2 a3 a4 n4)) z=some r) ?_ ?_
     ·intro K17 hK17;refine seqR (S Fv (S Ld (S BS (S Mv (G0 Mv (S PA (S Mv (G0 Ld ?_))))))));obtain⟨x43,gx43,hE⟩:=gO hE;refine Gc1 45 rfl rfl rfl rfl rfl (fun hC=>Z122_walk (gx43 hC)) ?_;refine G1 46 rfl NB ?_;refine S PA (nil ?_);refine cE hE (fun hc44 hE=>?_) (fun hc44 hE=>?_)
      ·refine region ?_;refine s0 (assignNil (k':=10) rfl) rfl ?_;refine nil ?_;exact hK17 _ (Sl.nil:Sl Z7) Weak.toA hE
      refine AWp.skip ?_;exact hK17 _ x16 Weak.toA hE
     rintro s13_18 hE;try dsimp only at hE
     unfold Z27_j17 at hE;refine seqK fun K19 hK19=>?_;refine seqR (S Mv ?_);refine s0 (eqNil (TK rfl) rfl rfl) rfl ?_;refine S Mv (G0 Fv ?_);refine G1 52 rfl Ld ?_;refine G0 Mv ?_;obtain⟨x21,gx21,hE⟩:=gO hE;refine gC rfl rfl (fun hC=>ungdA (k:=53) rfl (ungdA (k:=54) rfl (partM (f:=TDir.c) (l:=none) (r:=(some ((s21_5:Nat):Int))) (TK rfl) rfl (TK rfl) rfl rfl trivial rfl (gx21 hC)))) rfl ?_;refine gC rfl rfl (fun hC=>makeFunc rfl) rfl ?_
     obtain⟨x22,gx22,hE⟩:=gO hE;refine gC rfl rfl (fun hC=>ungdA (k:=55) rfl (ungdA (k:=56) rfl (callP rfl rfl (fun H=>Z106_walk (gx22 hC) H (fun _ _ hx=>Z28_walk hx))))) rfl ?_;refine S PO (nil ?_);refine cE hE (fun hc23 hE=>?_) (fun hc23 hE=>?_)
     ·refine seqR (S Mv (S Mv ?_));obtain⟨x25,gx25,hE⟩:=bO hE;refine sH (callH rfl rfl (Z26_walk gx25 _ hpG hpG)) rfl ?_;refine hq ((H.set c0_2 (some (.tok 2 x25.Fout.l.length))).set c0 (some (.cells (Z1.cg (some c0_2) x25)))) ?_;refine nil ?_;refine AWp.exit ?_;exact hK10 _ x25 Weak.toA hE
     refine sk hK19 ?_;clear hK19 K19;refine seqR (S Mv (S Mv (S Fv (S Ld (S Fv (S Ld (S BS (S Mv (G0 Fv ?_)))))))));refine G1 70 rfl Ld ?_;refine G1 71 rfl BS ?_;refine S PO (S Mv ?_);obtain⟨x27,gx27,hE⟩:=bO hE;refine sH (callH rfl rfl (Z30_walk gx27 _ hpG hpG)) rfl ?_;refine hq ((H.set c0_2 (some (.tok 2 x27.Fout.l.length))).set c0 (some (.cells (Z1.cg (some c0_2) x27)))) ?_;refine nil ?_;refine seqR (S Mv ?_)
     refine sLen (f:=Z7.c) (s:=s13_18) (TK rfl) rfl rfl rfl rfl fun hL29=>?_;refine S Mv (nil ?_);refine block ?_;refine loopH (TA 0 (TA 3 (TA 4 (TA 6 (TA 7 (TA 11 (TA 19 (TA 20 (TA 21 (TA 76 (TA 77 KeepsT.nil))))))))))) (fun(z:Nat×Nat×Z1)=>[(78,.a (.d (.int .i64 ((z.2.1:Nat):Int))))]) (fun z=>((H.set c0_2 (some (.tok 2 z.2.2.Fout.l.length))).set c0 (some (.cells (Z1.cg (some c0_2) z.2.2))))) (fun z=>z.1) (fun z=>Z27_l30 a4 s21_5 x13 s13_18 ((Z27_l4 a1 a2 a3 a4 n4)) z.1 z.2.1 z.2.2=some r) ((s13_18.l.length+1),0,x27) hE Weak.toA ?_
     rintro ⟨n30,s78_31,y32_c0⟩ hE K30 hK30;try dsimp only at hE
     cases n30 with
     | zero=>cases hE
     | succ n30 =>
       rw [Z27_l30] at hE;refine seqR (S BI (nil ?_));refine seqK fun K34 hK34=>?_;refine cE hE (fun hc35 hE=>?_) (fun hc35 hE=>?_)
       ·try dsimp only at hc35
        have hf35:=of_decide_eq_true hc35;refine sk hK34 ?_;clear hK34 K34;refine seqK fun K36 hK36=>?_;refine block ?_;refine seqR ?_;obtain⟨x38,gx38,hE⟩:=bO hE;refine S (ix Z7.c s78_31 gx38) (S Ld ?_);refine Sl ?_;refine Sf ?_;refine nil ?_;refine freezeA 15 _ rfl (KA 0 (KA 3 (KA 4 (KA 6 (KA 7 (KA 11 (KA 19 (KA 20 (KA 21 (KA 76 (KA 77 (KA 78 Keeps.nil)))))))))))) ?_;refine seqR (S Fv (S Ld (S Fv (S Ld ?_))))
        obtain⟨x40,gx40,hE⟩:=bO hE;refine Sc rfl rfl (Z33_walk gx40) ?_;refine S Mv (S EX (S EX ?_));refine Sl ?_;refine Sf ?_;refine S As (nil ?_);refine freezeA 16 _ rfl (KA 0 (KA 3 (KA 4 (KA 6 (KA 7 (KA 11 (KA 17 (KA 19 (KA 20 (KA 21 (KA 76 (KA 77 (KA 78 Keeps.nil))))))))))))) ?_;refine region ?_;refine S Mv (S Mv (S NB (S Mv ?_)));obtain⟨x41,gx41,hE⟩:=bO hE;refine sH (callH rfl rfl (Z26_walk gx41 _ hpG hpG)) rfl ?_
        refine hq ((H.set c0_2 (some (.tok 2 x41.Fout.l.length))).set c0 (some (.cells (Z1.cg (some c0_2) x41)))) ?_;refine nil ?_;refine hK36 _ ?_;clear hK36 K36;refine region ?_;refine SI ?_;refine S Mv (nil ?_);exact hK30 _ (n30,(s78_31+1),x41) Weak.toA hE (Nat.lt_succ_self _)
       refine AWp.exit ?_;exact hK10 _ y32_c0 Weak.toA hE
    rintro y11_c0 hE;try dsimp only at hE
    unfold Z27_j10 at hE;refine region ?_;refine SI ?_;refine S Mv (nil ?_);exact hK4 _ (n4,(s21_5+1),y11_c0) Weak.toA hE (Nat.lt_succ_self _)
   refine AWp.exit ?_;repeat (first|refine xBlock_normal ?_|refine xThen_exit ?_|refine xBlock_exit ?_)
   obtain rfl:=Option.some.inj hE;refine retQ.normalF ((H.set c0_2 (some (.tok 2 y6_c0.Fout.l.length))).set c0 (some (.cells (Z1.cg (some c0_2) y6_c0)))) (xs:=[]) rfl ⟨rfl,rfl⟩ ?_;exact(fun _ _ h=>h)
def Z24 (a0:TDoc) (a1:Bs) (a2:Bs):Option (TRef×Bool):=(Z86 a0 a1).bind fun x4=>bif (!x4) then(some ((TRef.mk ([]:Bs) (Sl.nil:Sl Int)),false)) else(bif ((a2==([95,95,116,121,112,101,110,97,109,101]:Bs))) then((Z124 ([83,116,114,105,110,103]:Bs)).bind fun x11=>(Z125 x11).bind fun x12=>some (x12,true)) else((Z88 a0 a1).bind fun x14=>(Z87 x14.1 a2).bind fun x16=>bif (!x16.2) then(some ((TRef.mk ([]:Bs) (Sl.nil:Sl Int)),false)) else((Z104 x16.1.FType.FWraps).bind fun x22=>some ((TRef.mk x16.1.FType.FName x22),true))))
theorem Z24_walk {a0:TDoc}{a1 a2:Bs}{r:TRef×Bool}(hE:Z24 a0 a1 a2=some r) (H:Heap) :ACalls Tryz.prog 32 [.agg (TDoc.c a0),.d (.str a1),.d (.str a2)] H fun v h'=>v=.tup [.agg (TRef.c r.1),.d (.bool r.2)]/\h'=H:=by
 unfold Z24 at hE;refine ACalls.oW 44 [.cell 6 90,.tmp 7] Tryz.call32 Tryz.func32 ?_;refine seqR (S BX ?_);refine Sl ?_;refine S As (nil ?_);refine seqK fun K2 hK2=>?_;refine seqR (S Ld (S Mv ?_));obtain⟨x4,gx4,hE⟩:=bO hE;refine Sc rfl rfl (Z86_walk gx4) ?_;refine S NB (nil ?_);refine cE hE (fun hc5 hE=>?_) (fun hc5 hE=>?_)
 ·refine seqR (S BU ?_);refine Sf ?_;refine S As (nil ?_);exact rt hE
 refine sk hK2 ?_;clear hK2 K2;refine seqK fun K7 hK7=>?_;refine seqR (S Mv (S BS (nil ?_)));refine cE hE (fun hc9 hE=>?_) (fun hc9 hE=>?_)
 ·refine seqR ?_;obtain⟨x11,gx11,hE⟩:=bO hE;refine Sc rfl rfl (Z124_walk gx11) ?_;obtain⟨x12,gx12,hE⟩:=bO hE;refine Sc rfl rfl (Z125_walk gx12) ?_;refine Sf ?_;refine S As (nil ?_);exact rt hE
 refine sk hK7 ?_;clear hK7 K7;refine seqR (S Ld (S Mv ?_));obtain⟨x14,gx14,hE⟩:=bO hE;refine Sc rfl rfl (Z88_walk gx14) ?_;refine S Mv (S EX (S EX ?_));refine Sl ?_;refine Sf ?_;refine S As (nil ?_);refine freezeA 8 _ rfl (KA 2 (KA 6 Keeps.nil)) ?_;refine seqR (S Ld (S Mv ?_));obtain⟨x16,gx16,hE⟩:=bO hE;refine Sc rfl rfl (Z87_walk gx16) ?_;refine S Mv (S EX (S EX ?_));refine Sl ?_;refine Sf ?_;refine S As (nil ?_)
 refine freezeA 10 _ rfl (KA 6 (KA 11 Keeps.nil)) ?_;refine seqK fun K17 hK17=>?_;refine seqR (S Mv (S NB (nil ?_)));refine cE hE (fun hc19 hE=>?_) (fun hc19 hE=>?_)
 ·refine seqR (S BU ?_);refine Sf ?_;refine S As (nil ?_);exact rt hE
 refine sk hK17 ?_;clear hK17 K17;refine AWp.seqD (Sd Fv (Sd Fv (Sd Ld (Sd Fv (Sd Fv (Sd Ld ?_))))));obtain⟨x22,gx22,hE⟩:=bO hE;refine Scd rfl rfl (Z104_walk gx22) ?_;refine Sd BU ?_;refine DOps.sLn (storeLFA (TK rfl) rfl rfl rfl rfl rfl) ?_;refine Sd As ?_;refine DOps.nil (by decide +kernel) ?_;exact rt hE
end Go.Proofs

namespace Go.Proofs
open Go Go.Ab
open AOps Cert AWp Keeps KeepsT
variable {lou:Lou}
def fields_checker_sels_j9 (s13_4:Nat) (k_next_3:Nat->Z1->Option Z1) (y10_c0:Z1):Option Z1:=k_next_3 (s13_4+1) y10_c0
def fields_checker_sels_j22 (a3:Bs) (s13_4:Nat) (x12:TSel) (x20:Z1) (k_next_3:Nat->Z1->Option Z1) (k_rec_31:Z1->(Sl TSel)->Bs->Bs->Option Z1) (s10_23:Bs):Option Z1:=(k_rec_31 x20 x12.FSels s10_23 a3).bind fun x24=>fields_checker_sels_j9 s13_4 k_next_3 x24
def fields_checker_sels_l3 (a1:(Sl TSel)) (a2:Bs) (a3:Bs) (k_rec_31:Z1->(Sl TSel)->Bs->Bs->Option Z1) (k_rec_59:Z1->TSel->Bs->Bs->Option Z1):Nat->Nat->Z1->Option Z1
 | 0,_,_=>none
 | n3+1,s13_4,y5_c0=>bif (decide (((s13_4:Nat):Int)<((a1.l.length:Nat):Int))) then((a1.l[s13_4]?).bind fun x12=>bif (decide (x12.FKind=(2:Int))) then((Z27 y5_c0 x12 (TRef.mk ([]:Bs) (Sl.nil:Sl Int)) false a3).bind fun x16=>fields_checker_sels_j9 s13_4 ((fields_checker_sels_l3 a1 a2 a3 k_rec_31 k_rec_59 n3)) x16) else(bif (decide (x12.FKind=(3:Int))) then((Z27 y5_c0 x12 (TRef.mk ([]:Bs) (Sl.nil:Sl Int)) false a3).bind fun x20=>bif (!(x12.FOn==([]:Bs))) then(fields_checker_sels_j22 a3 s13_4 x12 x20 ((fields_checker_sels_l3 a1 a2 a3 k_rec_31 k_rec_59 n3)) k_rec_31 x12.FOn) else(fields_checker_sels_j22 a3 s13_4 x12 x20 ((fields_checker_sels_l3 a1 a2 a3 k_rec_31 k_rec_59 n3)) k_rec_31 a2)) else((k_rec_59 y5_c0 x12 a2 a3).bind fun x27=>fields_checker_sels_j9 s13_4 ((fields_checker_sels_l3 a1 a2 a3 k_rec_31 k_rec_59 n3)) x27))) else(some y5_c0)
def Z29_j16 (a1:TSel) (x7:Bs) (x12:(TRef×Bool)) (k_rec_31:Z1->(Sl TSel)->Bs->Bs->Option Z1) (y17_c0:Z1):Option Z1:=(Z27 y17_c0 a1 x12.1 x12.2 x7).bind fun x19=>(k_rec_31 x19 a1.FSels x12.1.FName x7).bind fun x20=>some x20
def Z29_l37 (a1:TSel) (x7:Bs) (x12:(TRef×Bool)) (y32_l0:Z5) (k_rec_31:Z1->(Sl TSel)->Bs->Bs->Option Z1):Nat->Nat->Z1->Option Z1
 | 0,_,_=>none
 | n37+1,s122_38,y39_c0=>bif (decide (((s122_38:Nat):Int)<((y32_l0.FArgs.l.length:Nat):Int))) then((y32_l0.FArgs.l[s122_38]?).bind fun x45=>(Z33 a1.FArgs x45.FName).bind fun x47=>(Z123 x45.FType).bind fun x48=>(Z26 y39_c0 ((x48&&(!x45.FHas))&&(!x47.2)) (22:Int) x7).bind fun x49=>(Z29_l37 a1 x7 x12 y32_l0 k_rec_31 n37) (s122_38+1) x49) else(Z29_j16 a1 x7 x12 k_rec_31 y39_c0)
def Z29_j31 (a1:TSel) (x7:Bs) (x12:(TRef×Bool)) (x27:Z1) (k_rec_31:Z1->(Sl TSel)->Bs->Bs->Option Z1) (y32_l0:Z5):Option Z1:=(Z30 x27 y32_l0.FArgs a1.FArgs false x7).bind fun x34=>Z29_l37 a1 x7 x12 y32_l0 k_rec_31 (y32_l0.FArgs.l.length+1) 0 x34
def Z29_j3 (a0:Z1) (a1:TSel) (a2:Bs) (a3:Bs) (k_rec_31:Z1->(Sl TSel)->Bs->Bs->Option Z1) (s8_4:Bs):Option Z1:=(catC ([47]:Bs) s8_4).bind fun x6=>(catC a3 x6).bind fun x7=>(Z120 a1.FAlias).bind fun x9=>(Z26 a0 x9 (6:Int) x7).bind fun x10=>(Z24 x10.Fd a2 a1.FName).bind fun x12=>guardO ((!x12.2)) (Z86 x10.Fd a2) false fun x14=>(Z26 x10 ((!x12.2)&&x14) (20:Int) x7).bind fun x15=>bif x12.2 then((Z91 x15.Fd x12.1.FName).bind fun x24=>guardO (!(x24&&(decide ((0:Int)<((a1.FSels.l.length:Nat):Int))))) (Z86 x15.Fd x12.1.FName) false fun x26=>(Z26 x15 ((x24&&(decide ((0:Int)<((a1.FSels.l.length:Nat):Int))))||(x26&&(decide (((a1.FSels.l.length:Nat):Int)=(0:Int))))) (21:Int) x7).bind fun x27=>(Z88 x27.Fd a2).bind fun x29=>bif (!(a1.FName==([95,95,116,121,112,101,110,97,109,101]:Bs))) then((Z87 x29.1 a1.FName).bind fun x52=>Z29_j31 a1 x7 x12 x27 k_rec_31 x52.1) else(Z29_j31 a1 x7 x12 x27 k_rec_31 (Z5.mk ([]:Bs) (Sl.nil:Sl Z7) TRef.zero (Sl.nil:Sl TDir)))) else(Z29_j16 a1 x7 x12 k_rec_31 x15)
mutual
def fields_checker_sels_n:Nat->Z1->(Sl TSel)->Bs->Bs->Option Z1
 | 0,_,_,_,_=>none
 | n+1,a0,a1,a2,a3=>fields_checker_sels_l3 a1 a2 a3 (fields_checker_sels_n n) (Z29_n n) (a1.l.length+1) 0 a0
def Z29_n:Nat->Z1->TSel->Bs->Bs->Option Z1
 | 0,_,_,_,_=>none
 | n+1,a0,a1,a2,a3=>bif ((a1.FAlias==([]:Bs))) then(Z29_j3 a0 a1 a2 a3 (fields_checker_sels_n n) a1.FName) else(Z29_j3 a0 a1 a2 a3 (fields_checker_sels_n n) a1.FAlias)
end
theorem fields_checker_sels_step (n:Nat) (ih_31:∀{a0:Z1}{a1:Sl TSel}{a2 a3:Bs}{w1:Option Nat}{c0 c0_2:Nat}{r:Z1},fields_checker_sels_n n a0 a1 a2 a3=some r->∀(H:Heap) (hc0:H c0=some (.cells (Z1.cg (some c0_2) a0))) (ht0_2:H c0_2=some (.tok 2 a0.Fout.l.length)),ACalls Tryz.prog 31 [.d (.ptr c0 0),.d (Sl.d 7 TSel.c w1 a1),.d (.str a2),.d (.str a3)] H fun v h'=>v=.tup []/\h'=((H.set c0_2 (some (.tok 2 r.Fout.l.length))).set c0 (some (.cells (Z1.cg (some c0_2) r))))) (ih_59:∀{a0:Z1}{a1:TSel}{a2 a3:Bs}{c0 c0_2:Nat}{r:Z1},Z29_n n a0 a1 a2 a3=some r->∀(H:Heap) (hc0:H c0=some (.cells (Z1.cg (some c0_2) a0))) (ht0_2:H c0_2=some (.tok 2 a0.Fout.l.length)),ACalls Tryz.prog 59 [.d (.ptr c0 0),.agg (TSel.c a1),.d (.str a2),.d (.str a3)] H fun v h'=>v=.tup []/\h'=((H.set c0_2 (some (.tok 2 r.Fout.l.length))).set c0 (some (.cells (Z1.cg (some c0_2) r))))):∀{a0:Z1}{a1:Sl TSel}{a2 a3:Bs}{w1:Option Nat}{c0 c0_2:Nat}{r:Z1},fields_checker_sels_n (n+1) a0 a1 a2 a3=some r->∀(H:Heap) (hc0:H c0=some (.cells (Z1.cg (some c0_2) a0))) (ht0_2:H c0_2=some (.tok 2 a0.Fout.l.length)),ACalls Tryz.prog 31 [.d (.ptr c0 0),.d (Sl.d 7 TSel.c w1 a1),.d (.str a2),.d (.str a3)] H fun v h'=>v=.tup []/\h'=((H.set c0_2 (some (.tok 2 r.Fout.l.length))).set c0 (some (.cells (Z1.cg (some c0_2) r)))):=by
 intro a0 a1 a2 a3 w1 c0 c0_2 r hE H hc0 ht0_2;rw [fields_checker_sels_n] at hE;refine ACalls.oW 51 [] Tryz.call31 Tryz.func31 ?_;have ne_c0_c0_2:c0≠c0_2:=fun e_=>by subst e_; simp_all
 refine AWp.heqA (h':=((H.set c0_2 (some (.tok 2 a0.Fout.l.length))).set c0 (some (.cells (Z1.cg (some c0_2) a0))))) (by funext n_; simp only [Heap.set]; (repeat' split)<;>simp_all) ?_;refine seqR (S Mv ?_);refine sLen (f:=TSel.c) (s:=a1) (TK rfl) rfl rfl rfl rfl fun hL2=>?_;refine S Mv (nil ?_);refine block ?_;refine loopH (TA 0 (TA 2 (TA 3 (TA 11 (TA 12 KeepsT.nil))))) (fun(z:Nat×Nat×Z1)=>[(13,.a (.d (.int .i64 ((z.2.1:Nat):Int))))]) (fun z=>((H.set c0_2 (some (.tok 2 z.2.2.Fout.l.length))).set c0 (some (.cells (Z1.cg (some c0_2) z.2.2))))) (fun z=>z.1) (fun z=>fields_checker_sels_l3 a1 a2 a3 (fields_checker_sels_n n) (Z29_n n) z.1 z.2.1 z.2.2=some r) ((a1.l.length+1),0,a0) hE Weak.toA ?_
 rintro ⟨n3,s13_4,y5_c0⟩ hE K3 hK3;try dsimp only at hE
 cases n3 with
 | zero=>cases hE
 | succ n3 =>
   rw [fields_checker_sels_l3] at hE;refine seqR (S BI (nil ?_));refine seqK fun K7 hK7=>?_;refine cE hE (fun hc8 hE=>?_) (fun hc8 hE=>?_)
   ·try dsimp only at hc8
    have hf8:=of_decide_eq_true hc8;refine sk hK7 ?_;clear hK7 K7;refine seqJH (TA 0 (TA 2 (TA 3 (TA 11 (TA 12 (TA 13 KeepsT.nil)))))) (fun(z:Z1)=>[]) (fun z=>((H.set c0_2 (some (.tok 2 z.Fout.l.length))).set c0 (some (.cells (Z1.cg (some c0_2) z))))) (fun z=>fields_checker_sels_j9 s13_4 ((fields_checker_sels_l3 a1 a2 a3 (fields_checker_sels_n n) (Z29_n n) n3)) z=some r) ?_ ?_
    ·intro K9 hK9;refine block ?_;refine seqR ?_;obtain⟨x12,gx12,hE⟩:=bO hE;refine S (ix TSel.c s13_4 gx12) (S Ld ?_);refine Sl ?_;refine Sf ?_;refine nil ?_;refine freezeA 9 _ rfl (KA 0 (KA 2 (KA 3 (KA 11 (KA 12 (KA 13 Keeps.nil)))))) ?_;refine seqR (S Fv (S Ld (nil ?_)));refine block ?_;refine seqR (S BI (S As (nil ?_)));refine cE hE (fun hc15 hE=>?_) (fun hc15 hE=>?_)
     ·refine region ?_;refine S Mv (S Ld (S BU (S Mv ?_)));obtain⟨x16,gx16,hE⟩:=bO hE;refine sH (callH rfl rfl (Z27_walk gx16 _ hpG hpG)) rfl ?_;refine hq ((H.set c0_2 (some (.tok 2 x16.Fout.l.length))).set c0 (some (.cells (Z1.cg (some c0_2) x16)))) ?_;refine nil ?_;exact hK9 _ x16 Weak.toA hE
     refine seqR (S BI (S As (nil ?_)));refine cE hE (fun hc18 hE=>?_) (fun hc18 hE=>?_)
     ·refine seqR (S Mv (S Ld (S BU (S Mv ?_))));obtain⟨x20,gx20,hE⟩:=bO hE;refine sH (callH rfl rfl (Z27_walk gx20 _ hpG hpG)) rfl ?_;refine hq ((H.set c0_2 (some (.tok 2 x20.Fout.l.length))).set c0 (some (.cells (Z1.cg (some c0_2) x20)))) ?_;refine nil ?_;refine seqR (S Mv (S As (nil ?_)));refine seqJH (TA 0 (TA 2 (TA 3 (TA 9 (TA 11 (TA 12 (TA 13 KeepsT.nil))))))) (fun(z:Bs)=>[(10,.a (.d (.str z)))]) (fun z=>((H.set c0_2 (some (.tok 2 x20.Fout.l.length))).set c0 (some (.cells (Z1.cg (some c0_2) x20))))) (fun z=>fields_checker_sels_j22 a3 s13_4 x12 x20 ((fields_checker_sels_l3 a1 a2 a3 (fields_checker_sels_n n) (Z29_n n) n3)) (fields_checker_sels_n n) z=some r) ?_ ?_
      ·intro K22 hK22;refine seqR (S Fv (S Ld (S BS (nil ?_))));refine cE hE (fun hc26 hE=>?_) (fun hc26 hE=>?_)
       ·refine region ?_;refine S Fv (S Ld (S As (nil ?_)));exact hK22 _ x12.FOn Weak.toA hE
       refine AWp.skip ?_;exact hK22 _ a2 Weak.toA hE
      rintro s10_23 hE;try dsimp only at hE
      unfold fields_checker_sels_j22 at hE;refine region ?_;refine S Mv (S Fv ?_);refine s0 (loadV (TK rfl) rfl rfl (congrArg (fun x=>some (A.d x)) (TSel.FSelsD_eq _))) rfl ?_;refine S Mv (S Mv ?_);obtain⟨x24,gx24,hE⟩:=bO hE;refine sH (callH rfl rfl (ih_31 gx24 _ hpG hpG)) rfl ?_;refine hq ((H.set c0_2 (some (.tok 2 x24.Fout.l.length))).set c0 (some (.cells (Z1.cg (some c0_2) x24)))) ?_;refine nil ?_
      exact hK9 _ x24 Weak.toA hE
     refine region ?_;refine S Mv (S Ld (S Mv (S Mv ?_)));obtain⟨x27,gx27,hE⟩:=bO hE;refine sH (callH rfl rfl (ih_59 gx27 _ hpG hpG)) rfl ?_;refine hq ((H.set c0_2 (some (.tok 2 x27.Fout.l.length))).set c0 (some (.cells (Z1.cg (some c0_2) x27)))) ?_;refine nil ?_;exact hK9 _ x27 Weak.toA hE
    rintro y10_c0 hE;try dsimp only at hE
    unfold fields_checker_sels_j9 at hE;refine region ?_;refine SI ?_;refine S Mv (nil ?_);exact hK3 _ (n3,(s13_4+1),y10_c0) Weak.toA hE (Nat.lt_succ_self _)
   refine AWp.exit ?_;repeat (first|refine xBlock_normal ?_|refine xThen_exit ?_|refine xBlock_exit ?_)
   obtain rfl:=Option.some.inj hE;refine retQ.normalF ((H.set c0_2 (some (.tok 2 y5_c0.Fout.l.length))).set c0 (some (.cells (Z1.cg (some c0_2) y5_c0)))) (xs:=[]) rfl ⟨rfl,rfl⟩ ?_;exact(fun _ _ h=>h)
theorem Z29_step (n:Nat) (ih_31:∀{a0:Z1}{a1:Sl TSel}{a2 a3:Bs}{w1:Option Nat}{c0 c0_2:Nat}{r:Z1},fields_checker_sels_n n a0 a1 a2 a3=some r->∀(H:Heap) (hc0:H c0=some (.cells (Z1.cg (some c0_2) a0))) (ht0_2:H c0_2=some (.tok 2 a0.Fout.l.length)),ACalls Tryz.prog 31 [.d (.ptr c0 0),.d (Sl.d 7 TSel.c w1 a1),.d (.str a2),.d (.str a3)] H fun v h'=>v=.tup []/\h'=((H.set c0_2 (some (.tok 2 r.Fout.l.length))).set c0 (some (.cells (Z1.cg (some c0_2) r))))) (ih_59:∀{a0:Z1}{a1:TSel}{a2 a3:Bs}{c0 c0_2:Nat}{r:Z1},Z29_n n a0 a1 a2 a3=some r->∀(H:Heap) (hc0:H c0=some (.cells (Z1.cg (some c0_2) a0))) (ht0_2:H c0_2=some (.tok 2 a0.Fout.l.length)),ACalls Tryz.prog 59 [.d (.ptr c0 0),.agg (TSel.c a1),.d (.str a2),.d (.str a3)] H fun v h'=>v=.tup []/\h'=((H.set c0_2 (some (.tok 2 r.Fout.l.length))).set c0 (some (.cells (Z1.cg (some c0_2) r))))):∀{a0:Z1}{a1:TSel}{a2 a3:Bs}{c0 c0_2:Nat}{r:Z1},Z29_n (n+1) a0 a1 a2 a3=some r->∀(H:Heap) (hc0:H c0=some (.cells (Z1.cg (some c0_2) a0))) (ht0_2:H c0_2=some (.tok 2 a0.Fout.l.length)),ACalls Tryz.prog 59 [.d (.ptr c0 0),.agg (TSel.c a1),.d (.str a2),.d (.str a3)] H fun v h'=>v=.tup []/\h'=((H.set c0_2 (some (.tok 2 r.Fout.l.length))).set c0 (some (.cells (Z1.cg (some c0_2) r)))):=by
 intro a0 a1 a2 a3  c0 c0_2 r hE H hc0 ht0_2;rw [Z29_n] at hE;refine ACalls.oW 163 [] Tryz.call59 Tryz.func59 ?_;have ne_c0_c0_2:c0≠c0_2:=fun e_=>by subst e_; simp_all
 refine AWp.heqA (h':=((H.set c0_2 (some (.tok 2 a0.Fout.l.length))).set c0 (some (.cells (Z1.cg (some c0_2) a0))))) (by funext n_; simp only [Heap.set]; (repeat' split)<;>simp_all) ?_;refine seqR (S BX (nil ?_));refine seqR (S Fv (S Ld (S As (nil ?_))));refine seqJH (TA 0 (TA 2 (TA 3 (TA 5 KeepsT.nil)))) (fun(z:Bs)=>[(8,.a (.d (.str z)))]) (fun z=>((H.set c0_2 (some (.tok 2 a0.Fout.l.length))).set c0 (some (.cells (Z1.cg (some c0_2) a0))))) (fun z=>Z29_j3 a0 a1 a2 a3 (fields_checker_sels_n n) z=some r) ?_ ?_
 ·intro K3 hK3;refine seqR (S Mv (S BS (nil ?_)));refine cE hE (fun hc54 hE=>?_) (fun hc54 hE=>?_)
  ·refine region ?_;refine S Fv (S Ld (S As (nil ?_)));exact hK3 _ a1.FName Weak.toA hE
  refine AWp.skip ?_;exact hK3 _ a1.FAlias Weak.toA hE
 rintro s8_4 hE;try dsimp only at hE
 unfold Z29_j3 at hE;refine seqR (S Mv (S Mv ?_));obtain⟨x6,gx6,hE⟩:=bO hE;refine s0 (catM rfl rfl gx6) rfl ?_;obtain⟨x7,gx7,hE⟩:=bO hE;refine s0 (catM rfl rfl gx7) rfl ?_;refine S As (nil ?_);refine seqR (S Mv (S Fv (S Ld ?_)));obtain⟨x9,gx9,hE⟩:=bO hE;refine Sc rfl rfl (Z120_walk gx9) ?_;refine S Mv ?_;obtain⟨x10,gx10,hE⟩:=bO hE;refine sH (callH rfl rfl (Z26_walk gx10 _ hpG hpG)) rfl ?_;refine hq ((H.set c0_2 (some (.tok 2 x10.Fout.l.length))).set c0 (some (.cells (Z1.cg (some c0_2) x10)))) ?_
 refine nil ?_;refine AWp.seqD (Sd Mv (Sd NP ?_));refine DOps.s0 (fieldP (TK rfl) rfl rfl (TK rfl) rfl rfl) rfl ?_;refine DOps.s0 (loadP (TK rfl) rfl rfl hpG rfl) rfl ?_;refine Sd Mv (Sd Fv (Sd Ld ?_));obtain⟨x12,gx12,hE⟩:=bO hE;refine Scd rfl rfl (Z24_walk gx12) ?_;refine Sd Mv (Sd EX (Sd EX ?_));refine DOps.sB (TK rfl) rfl rfl ?_ (by repeat (first|exact Snoc.nil|apply Snoc.cons));refine DOps.sLn (storeLFA (TK rfl) rfl rfl rfl rfl rfl) ?_
 refine Sd As ?_;refine DOps.nil (by decide +kernel) ?_;refine freezeA 9 _ rfl (KA 0 (KA 2 (KA 3 (KA 5 (KA 10 Keeps.nil))))) ?_;refine seqR (S Mv (S Mv (S NB (S Mv (G0 Mv ?_)))));refine G1 50 rfl NP ?_;refine gC rfl rfl (fun hC=>ungdA (k:=51) rfl (fieldP (TK rfl) rfl rfl (TK rfl) rfl rfl)) rfl ?_;refine gC rfl rfl (fun hC=>ungdA (k:=52) rfl (loadP (TK rfl) rfl rfl hpG rfl)) rfl ?_;refine G0 Mv ?_;obtain⟨x14,gx14,hE⟩:=gO hE
 refine Gc2 53 54 rfl rfl rfl rfl rfl rfl (fun hC=>Z86_walk (gx14 hC)) ?_;refine S PA (S Mv ?_);obtain⟨x15,gx15,hE⟩:=bO hE;refine sH (callH rfl rfl (Z26_walk gx15 _ hpG hpG)) rfl ?_;refine hq ((H.set c0_2 (some (.tok 2 x15.Fout.l.length))).set c0 (some (.cells (Z1.cg (some c0_2) x15)))) ?_;refine nil ?_;refine seqJH (TA 0 (TA 3 (TA 5 (TA 9 (TA 10 KeepsT.nil))))) (fun(z:Z1)=>[]) (fun z=>((H.set c0_2 (some (.tok 2 z.Fout.l.length))).set c0 (some (.cells (Z1.cg (some c0_2) z))))) (fun z=>Z29_j16 a1 x7 x12 (fields_checker_sels_n n) z=some r) ?_ ?_
 ·intro K16 hK16;refine seqR (S Mv (nil ?_));refine cE hE (fun hc22 hE=>?_) (fun hc22 hE=>?_)
  ·refine AWp.seqD (Sd Mv (Sd NP ?_));refine DOps.s0 (fieldP (TK rfl) rfl rfl (TK rfl) rfl rfl) rfl ?_;refine DOps.s0 (loadP (TK rfl) rfl rfl hpG rfl) rfl ?_;refine Sd Fv (Sd Ld ?_);obtain⟨x24,gx24,hE⟩:=bO hE;refine Scd rfl rfl (Z91_walk gx24) ?_;refine Sd As ?_;refine DOps.nil (by decide +kernel) ?_;refine AWp.seqD (Sd Mv (Sd Mv (Sd Mv (G0d Fv ?_))));refine DOps.gC rfl rfl (fun hC=>ungdA (k:=70) rfl (loadV (TK rfl) rfl rfl (congrArg (fun x=>some (A.d x)) (TSel.FSelsD_eq _)))) rfl ?_
   refine DOps.gC rfl rfl (fun hC=>ungdA (k:=71) rfl (lenM' (f:=TSel.c) (s:=a1.FSels) (TK rfl) rfl rfl rfl)) rfl ?_;refine G1d 72 rfl BI ?_;refine Sd PA (Sd Mv (G0d Mv ?_));refine G1d 76 rfl NP ?_;refine DOps.gC rfl rfl (fun hC=>ungdA (k:=77) rfl (fieldP (TK rfl) rfl rfl (TK rfl) rfl rfl)) rfl ?_;refine DOps.gC rfl rfl (fun hC=>ungdA (k:=78) rfl (loadP (TK rfl) rfl rfl hpG rfl)) rfl ?_;refine G0d Fv ?_
   refine G1d 80 rfl Ld ?_;obtain⟨x26,gx26,hE⟩:=gO hE;refine Gc2d 79 81 rfl rfl rfl rfl rfl rfl (fun hC=>Z86_walk (gx26 hC)) ?_;refine G1d 82 rfl Mv ?_;refine G0d Fv ?_;refine DOps.gC rfl rfl (fun hC=>ungdA (k:=84) rfl (loadV (TK rfl) rfl rfl (congrArg (fun x=>some (A.d x)) (TSel.FSelsD_eq _)))) rfl ?_;refine DOps.gC rfl rfl (fun hC=>ungdA (k:=85) rfl (lenM' (f:=TSel.c) (s:=a1.FSels) (TK rfl) rfl rfl rfl)) rfl ?_
   refine G1d 86 rfl BI ?_;refine DOps.gC rfl rfl (fun hC=>ungdA (k:=83) rfl (pickAndA rfl rfl rfl)) rfl ?_;refine Sd PO (Sd Mv ?_);obtain⟨x27,gx27,hE⟩:=bO hE;refine DOps.sH (callH rfl rfl (Z26_walk gx27 _ hpG hpG)) rfl ?_;refine DOps.Dh ((H.set c0_2 (some (.tok 2 x27.Fout.l.length))).set c0 (some (.cells (Z1.cg (some c0_2) x27)))) ?_;refine DOps.nil (by decide +kernel) ?_;refine seqR (S Mv (S NP ?_))
   refine s0 (fieldP (TK rfl) rfl rfl (TK rfl) rfl rfl) rfl ?_;refine s0 (loadP (TK rfl) rfl rfl hpG rfl) rfl ?_;refine S Mv ?_;obtain⟨x29,gx29,hE⟩:=bO hE;refine Sc rfl rfl (Z88_walk gx29) ?_;refine S Mv (S EX (S EX ?_));refine Sl ?_;refine Sf ?_;refine S As (nil ?_);refine freezeA 12 _ rfl (KA 0 (KA 3 (KA 5 (KA 9 (KA 10 Keeps.nil))))) ?_;refine seqR (S BU ?_);refine Sl ?_;refine Sf ?_;refine nil ?_
   refine seqJ (TA 0 (TA 3 (TA 5 (TA 9 (TA 10 (TA 14 KeepsT.nil)))))) (fun(z:Z5)=>[]) (fun z=>[Z5.c z]) (fun z=>((H.set c0_2 (some (.tok 2 x27.Fout.l.length))).set c0 (some (.cells (Z1.cg (some c0_2) x27))))) (fun z=>Z29_j31 a1 x7 x12 x27 (fields_checker_sels_n n) z=some r) ?_ ?_
   ·intro K31 hK31;refine seqR (S Fv (S Ld (S BS (nil ?_))));refine cE hE (fun hc51 hE=>?_) (fun hc51 hE=>?_)
    ·refine region ?_;refine S Ld (S Fv (S Ld ?_));obtain⟨x52,gx52,hE⟩:=bO hE;refine Sc rfl rfl (Z87_walk gx52) ?_;refine S Mv (S EX (S EX ?_));refine Sf ?_;refine nil ?_;exact hK31 _ x52.1 Weak.toA hE
    refine AWp.skip ?_;exact hK31 _ (Z5.mk ([]:Bs) (Sl.nil:Sl Z7) TRef.zero (Sl.nil:Sl TDir)) Weak.toA hE
   rintro y32_l0 hE;try dsimp only at hE
   unfold Z29_j31 at hE;refine seqR (S Mv (S FL (S LL (S Fv (S Ld (S Mv ?_))))));obtain⟨x34,gx34,hE⟩:=bO hE;refine sH (callH rfl rfl (Z30_walk gx34 _ hpG hpG)) rfl ?_;refine hq ((H.set c0_2 (some (.tok 2 x34.Fout.l.length))).set c0 (some (.cells (Z1.cg (some c0_2) x34)))) ?_;refine nil ?_;refine seqR (S FL (S LL ?_));refine sLen (f:=Z7.c) (s:=y32_l0.FArgs) (TK rfl) rfl rfl rfl rfl fun hL36=>?_;refine S Mv (nil ?_)
   refine block ?_;refine loopH (TA 0 (TA 3 (TA 5 (TA 9 (TA 10 (TA 120 (TA 121 KeepsT.nil))))))) (fun(z:Nat×Nat×Z1)=>[(122,.a (.d (.int .i64 ((z.2.1:Nat):Int))))]) (fun z=>((H.set c0_2 (some (.tok 2 z.2.2.Fout.l.length))).set c0 (some (.cells (Z1.cg (some c0_2) z.2.2))))) (fun z=>z.1) (fun z=>Z29_l37 a1 x7 x12 y32_l0 (fields_checker_sels_n n) z.1 z.2.1 z.2.2=some r) ((y32_l0.FArgs.l.length+1),0,x34) hE Weak.toA ?_
   rintro ⟨n37,s122_38,y39_c0⟩ hE K37 hK37;try dsimp only at hE
   cases n37 with
   | zero=>cases hE
   | succ n37 =>
     rw [Z29_l37] at hE;refine seqR (S BI (nil ?_));refine seqK fun K41 hK41=>?_;refine cE hE (fun hc42 hE=>?_) (fun hc42 hE=>?_)
     ·try dsimp only at hc42
      have hf42:=of_decide_eq_true hc42;refine sk hK41 ?_;clear hK41 K41;refine seqK fun K43 hK43=>?_;refine block ?_;refine seqR ?_;obtain⟨x45,gx45,hE⟩:=bO hE;refine S (ix Z7.c s122_38 gx45) (S Ld ?_);refine Sl ?_;refine Sf ?_;refine nil ?_;refine freezeA 16 _ rfl (KA 0 (KA 3 (KA 5 (KA 9 (KA 10 (KA 120 (KA 121 (KA 122 Keeps.nil)))))))) ?_;refine seqR (S Fv (S Ld (S Fv (S Ld ?_))));obtain⟨x47,gx47,hE⟩:=bO hE
      refine Sc rfl rfl (Z33_walk gx47) ?_;refine S Mv (S EX (S EX ?_));refine Sl ?_;refine Sf ?_;refine S As (nil ?_);refine freezeA 17 _ rfl (KA 0 (KA 3 (KA 5 (KA 9 (KA 10 (KA 16 (KA 18 (KA 120 (KA 121 (KA 122 Keeps.nil)))))))))) ?_;refine region ?_;refine S Mv (S Fv (S Ld ?_));obtain⟨x48,gx48,hE⟩:=bO hE;refine Sc rfl rfl (Z123_walk gx48) ?_;refine S Mv (G0 Fv ?_);refine G1 139 rfl Ld ?_;refine G1 140 rfl NB ?_
      refine S PA (S Mv (G0 Mv ?_));refine G1 144 rfl NB ?_;refine S PA (S Mv ?_);obtain⟨x49,gx49,hE⟩:=bO hE;refine sH (callH rfl rfl (Z26_walk gx49 _ hpG hpG)) rfl ?_;refine hq ((H.set c0_2 (some (.tok 2 x49.Fout.l.length))).set c0 (some (.cells (Z1.cg (some c0_2) x49)))) ?_;refine nil ?_;refine hK43 _ ?_;clear hK43 K43;refine region ?_;refine SI ?_;refine S Mv (nil ?_);exact hK37 _ (n37,(s122_38+1),x49) Weak.toA hE (Nat.lt_succ_self _)
     refine AWp.exit ?_;exact hK16 _ y39_c0 Weak.toA hE
  refine AWp.skip ?_;exact hK16 _ x15 Weak.toA hE
 rintro y17_c0 hE;try dsimp only at hE
 unfold Z29_j16 at hE;refine seqR (S Mv (S Ld (S Ld (S Mv (S Mv ?_)))));obtain⟨x19,gx19,hE⟩:=bO hE;refine sH (callH rfl rfl (Z27_walk gx19 _ hpG hpG)) rfl ?_;refine hq ((H.set c0_2 (some (.tok 2 x19.Fout.l.length))).set c0 (some (.cells (Z1.cg (some c0_2) x19)))) ?_;refine nil ?_;refine region ?_;refine S Mv (S Fv ?_);refine s0 (loadV (TK rfl) rfl rfl (congrArg (fun x=>some (A.d x)) (TSel.FSelsD_eq _))) rfl ?_
 refine S Fv (S Ld (S Mv ?_));obtain⟨x20,gx20,hE⟩:=bO hE;refine sH (callH rfl rfl (ih_31 gx20 _ hpG hpG)) rfl ?_;refine hq ((H.set c0_2 (some (.tok 2 x20.Fout.l.length))).set c0 (some (.cells (Z1.cg (some c0_2) x20)))) ?_;refine nil ?_;repeat (first|refine xBlock_normal ?_|refine xThen_exit ?_|refine xBlock_exit ?_)
 obtain rfl:=Option.some.inj hE;refine retQ.normalF ((H.set c0_2 (some (.tok 2 x20.Fout.l.length))).set c0 (some (.cells (Z1.cg (some c0_2) x20)))) (xs:=[]) rfl ⟨rfl,rfl⟩ ?_;exact(fun _ _ h=>h)
theorem fields_checker_sels_all:∀(n:Nat),(∀{a0:Z1}{a1:Sl TSel}{a2 a3:Bs}{w1:Option Nat}{c0 c0_2:Nat}{r:Z1},fields_checker_sels_n n a0 a1 a2 a3=some r->∀(H:Heap) (hc0:H c0=some (.cells (Z1.cg (some c0_2) a0))) (ht0_2:H c0_2=some (.tok 2 a0.Fout.l.length)),ACalls Tryz.prog 31 [.d (.ptr c0 0),.d (Sl.d 7 TSel.c w1 a1),.d (.str a2),.d (.str a3)] H fun v h'=>v=.tup []/\h'=((H.set c0_2 (some (.tok 2 r.Fout.l.length))).set c0 (some (.cells (Z1.cg (some c0_2) r)))))/\(∀{a0:Z1}{a1:TSel}{a2 a3:Bs}{c0 c0_2:Nat}{r:Z1},Z29_n n a0 a1 a2 a3=some r->∀(H:Heap) (hc0:H c0=some (.cells (Z1.cg (some c0_2) a0))) (ht0_2:H c0_2=some (.tok 2 a0.Fout.l.length)),ACalls Tryz.prog 59 [.d (.ptr c0 0),.agg (TSel.c a1),.d (.str a2),.d (.str a3)] H fun v h'=>v=.tup []/\h'=((H.set c0_2 (some (.tok 2 r.Fout.l.length))).set c0 (some (.cells (Z1.cg (some c0_2) r)))))
 | 0=>⟨fun hE=>by first|cases hE|(rw [fields_checker_sels_n] at hE; cases hE),fun hE=>by first|cases hE|(rw [Z29_n] at hE; cases hE)⟩
 | n+1=>⟨fields_checker_sels_step n (fields_checker_sels_all n).1 (fields_checker_sels_all n).2,Z29_step n (fields_checker_sels_all n).1 (fields_checker_sels_all n).2⟩
def fields_checker_sels (a0:Z1) (a1:(Sl TSel)) (a2:Bs) (a3:Bs):Option Z1:=fields_checker_sels_n F0 a0 a1 a2 a3
theorem fields_checker_sels_walk {a0:Z1}{a1:Sl TSel}{a2 a3:Bs}{w1:Option Nat}{c0 c0_2:Nat}{r:Z1}(hE:fields_checker_sels a0 a1 a2 a3=some r) (H:Heap) (hc0:H c0=some (.cells (Z1.cg (some c0_2) a0))) (ht0_2:H c0_2=some (.tok 2 a0.Fout.l.length)):ACalls Tryz.prog 31 [.d (.ptr c0 0),.d (Sl.d 7 TSel.c w1 a1),.d (.str a2),.d (.str a3)] H fun v h'=>v=.tup []/\h'=((H.set c0_2 (some (.tok 2 r.Fout.l.length))).set c0 (some (.cells (Z1.cg (some c0_2) r)))):=(fields_checker_sels_all F0).1 hE H hc0 ht0_2
def Z23_j7  (y8_id18_3:Z1):Option (Sl Z4):=some y8_id18_3.Fout
def Z23_l12 (a1:Z9) :Nat->Nat->Z1->Option (Sl Z4)
 | 0,_,_=>none
 | n12+1,s75_13,y14_id18_3=>bif (decide (((s75_13:Nat):Int)<((a1.FFrags.l.length:Nat):Int))) then((a1.FFrags.l[s75_13]?).bind fun x20=>(fields_checker_sels y14_id18_3 x20.FSels x20.FOn x20.FName).bind fun x21=>(Z23_l12 a1 n12) (s75_13+1) x21) else(Z23_j7   y14_id18_3)
def Z23_j5 (a1:Z9)  (y6_id18_3:Z1):Option (Sl Z4):=Z23_l12 a1 (a1.FFrags.l.length+1) 0 y6_id18_3
def Z23_l24 (a0:TDoc) (a1:Z9) :Nat->Nat->Z1->Option (Sl Z4)
 | 0,_,_=>none
 | n24+1,s22_25,y26_id18_3=>bif (decide (((s22_25:Nat):Int)<((a1.FOps.l.length:Nat):Int))) then((a1.FOps.l[s22_25]?).bind fun x32=>(Z92 x32.FKind).bind fun x34=>(Z88 a0 x34).bind fun x36=>(Z31 y26_id18_3 x32.FSels ([]:List Bs) ([]:List Bs)).bind fun x41=>(Z26 y26_id18_3 (((!x36.2)||(!decide (x36.1.FKind=(1:Int))))||((decide (x32.FKind=(3:Int)))&&(!decide ((((seenM x41.1).length:Nat):Int)=(1:Int))))) (30:Int) x32.FName).bind fun x44=>(fields_checker_sels x44 x32.FSels x34 x32.FName).bind fun x45=>(Z23_l24 a0 a1 n24) (s22_25+1) x45) else(Z23_j5 a1  y26_id18_3)
def Z23 (a0:TDoc) (a1:Z9):Option (Sl Z4):=Z23_l24 a0 a1 (a1.FOps.l.length+1) 0 (Z1.mk a0 a1 (Sl.nil:Sl Z4))
theorem Z23_walk {a0:TDoc}{a1:Z9}{r:Sl Z4}(hE:Z23 a0 a1=some r) (H:Heap) :ACalls Tryz.prog 8 [.agg (TDoc.c a0),.agg (Z9.c a1)] H fun v h'=>v=.a (.d (Sl.d 2 Z4.c none r))/\h'=H:=by
 unfold Z23 at hE;refine ACalls.oW 92 [.tmp 4] Tryz.call8 Tryz.func8 ?_;refine seqR (S BX (S BX ?_));refine s0 (assignNil (k':=2) rfl) rfl ?_;refine nil ?_;refine seqR (S Ld (S Ld (S BU ?_)));refine AOps.tok 2 fun tk18_4 htk18_4=>?_;refine sE (StepE.boxO rfl) rfl (fun _ _ _ ⟨id18_3,hid18_3,e1,e2,e3⟩=>?_); subst e1 e2 e3;obtain⟨ne_id18_3_tk18_4,hid18_3⟩:=Heap.set_fresh hid18_3;refine AOps.recell id18_3 _ hpG (fun j w cs hh hx=>tok_cell 3 2 2 hh (t:=tk18_4) hpG hx rfl) ?_
 refine hq ((H.set tk18_4 (some (.tok 2 0))).set id18_3 (some (.cells (Z1.cg (some tk18_4) (Z1.mk a0 a1 (Sl.nil:Sl Z4)))))) ?_;refine S As (nil ?_);refine seqJH (TA 3 (TA 5 KeepsT.nil)) (fun(z:Z1)=>[]) (fun z=>((H.set tk18_4 (some (.tok 2 z.Fout.l.length))).set id18_3 (some (.cells (Z1.cg (some tk18_4) z))))) (fun z=>Z23_j5 a1 z=some r) ?_ ?_
 ·intro K5 hK5;refine seqR (S Fv (S Ld ?_));refine sLen (f:=TOp.c) (s:=a1.FOps) (TK rfl) rfl rfl rfl rfl fun hL23=>?_;refine S Mv (nil ?_);refine block ?_;refine loopH (TA 2 (TA 3 (TA 5 (TA 20 (TA 21 KeepsT.nil))))) (fun(z:Nat×Nat×Z1)=>[(22,.a (.d (.int .i64 ((z.2.1:Nat):Int))))]) (fun z=>((H.set tk18_4 (some (.tok 2 z.2.2.Fout.l.length))).set id18_3 (some (.cells (Z1.cg (some tk18_4) z.2.2))))) (fun z=>z.1) (fun z=>Z23_l24 a0 a1 z.1 z.2.1 z.2.2=some r) ((a1.FOps.l.length+1),0,(Z1.mk a0 a1 (Sl.nil:Sl Z4))) hE Weak.toA ?_
  rintro ⟨n24,s22_25,y26_id18_3⟩ hE K24 hK24;try dsimp only at hE
  cases n24 with
  | zero=>cases hE
  | succ n24 =>
    rw [Z23_l24] at hE;refine seqR (S BI (nil ?_));refine seqK fun K28 hK28=>?_;refine cE hE (fun hc29 hE=>?_) (fun hc29 hE=>?_)
    ·try dsimp only at hc29
     have hf29:=of_decide_eq_true hc29;refine sk hK28 ?_;clear hK28 K28;refine seqK fun K30 hK30=>?_;refine block ?_;refine seqR ?_;obtain⟨x32,gx32,hE⟩:=bO hE;refine S (ix TOp.c s22_25 gx32) (S Ld ?_);refine Sl ?_;refine Sf ?_;refine nil ?_;refine freezeA 7 _ rfl (KA 2 (KA 3 (KA 5 (KA 20 (KA 21 (KA 22 Keeps.nil)))))) ?_;refine seqR (S Fv (S Ld ?_));obtain⟨x34,gx34,hE⟩:=bO hE;refine Sc rfl rfl (Z92_walk gx34) ?_
     refine S As (nil ?_);refine seqR (S Ld (S Mv ?_));obtain⟨x36,gx36,hE⟩:=bO hE;refine Sc rfl rfl (Z88_walk gx36) ?_;refine S Mv (S EX (S EX ?_));refine Sl ?_;refine Sf ?_;refine S As (nil ?_);refine freezeA 9 _ rfl (KA 2 (KA 3 (KA 5 (KA 7 (KA 8 (KA 10 (KA 20 (KA 21 (KA 22 Keeps.nil))))))))) ?_;refine seqR ?_;refine sE StepE.makeMap rfl (fun _ _ _ ⟨id35_38,hid35_38,e1,e2,e3⟩=>?_); subst e1 e2 e3
     obtain⟨ne_id35_38_id18_3,hid35_38⟩:=Heap.set_fresh hid35_38;obtain⟨ne_id35_38_tk18_4,hid35_38⟩:=Heap.set_fresh hid35_38;refine hq (((H.set tk18_4 (some (.tok 2 y26_id18_3.Fout.l.length))).set id18_3 (some (.cells (Z1.cg (some tk18_4) y26_id18_3)))).set id35_38 (some (.map (seenM ([]:List Bs))))) ?_;refine S As (nil ?_);refine seqR (S Mv (S Fv (S Ld (S Mv ?_))));refine sE StepE.makeMap rfl (fun _ _ _ ⟨id40_40,hid40_40,e1,e2,e3⟩=>?_); subst e1 e2 e3
     obtain⟨ne_id40_40_id35_38,hid40_40⟩:=Heap.set_fresh hid40_40;obtain⟨ne_id40_40_id18_3,hid40_40⟩:=Heap.set_fresh hid40_40;obtain⟨ne_id40_40_tk18_4,hid40_40⟩:=Heap.set_fresh hid40_40;refine hq ((((H.set tk18_4 (some (.tok 2 y26_id18_3.Fout.l.length))).set id18_3 (some (.cells (Z1.cg (some tk18_4) y26_id18_3)))).set id35_38 (some (.map (seenM ([]:List Bs))))).set id40_40 (some (.map (seenM ([]:List Bs))))) ?_
     obtain⟨x41,gx41,hE⟩:=bO hE;refine sH (callH rfl rfl (Z31_walk gx41 _ hpG hpG hpG (by assumption))) rfl ?_;refine hq ((((H.set tk18_4 (some (.tok 2 y26_id18_3.Fout.l.length))).set id18_3 (some (.cells (Z1.cg (some tk18_4) y26_id18_3)))).set id35_38 (some (.map (seenM x41.1)))).set id40_40 (some (.map (seenM x41.2)))) ?_;refine nil ?_;refine seqR (S Mv (S NB (S Mv (G0 Fv ?_))));refine G1 45 rfl Ld ?_
     refine G1 46 rfl BI ?_;refine S PO (S As (nil ?_));refine seqR (S Mv (S Mv (S Mv (G0 Fv ?_))));refine G1 52 rfl Ld ?_;refine G1 53 rfl BI ?_;refine G1 54 rfl Mv ?_;refine G0 Mv ?_;refine gC rfl rfl (fun hC=>ungdA (k:=56) rfl (lenM (TK rfl) rfl rfl rfl hpG)) rfl ?_;refine G1 57 rfl BI ?_;refine gC rfl rfl (fun hC=>ungdA (k:=55) rfl (pickAndA rfl rfl rfl)) rfl ?_;refine S PO (S Fv (S Ld ?_));obtain⟨x44,gx44,hE⟩:=bO hE
     refine sH (callH rfl rfl (Z26_walk gx44 _ hpG hpG)) rfl ?_;refine hq ((((H.set tk18_4 (some (.tok 2 x44.Fout.l.length))).set id18_3 (some (.cells (Z1.cg (some tk18_4) x44)))).set id35_38 (some (.map (seenM x41.1)))).set id40_40 (some (.map (seenM x41.2)))) ?_;refine nil ?_;refine region ?_;refine S Mv (S Fv (S Ld (S Mv (S Fv (S Ld ?_)))));obtain⟨x45,gx45,hE⟩:=bO hE;refine sH (callH rfl rfl (fields_checker_sels_walk gx45 _ hpG hpG)) rfl ?_
     refine hq ((((H.set tk18_4 (some (.tok 2 x45.Fout.l.length))).set id18_3 (some (.cells (Z1.cg (some tk18_4) x45)))).set id35_38 (some (.map (seenM x41.1)))).set id40_40 (some (.map (seenM x41.2)))) ?_;refine nil ?_;refine hK30 _ ?_;clear hK30 K30;refine region ?_;refine SI ?_;refine S Mv (nil ?_);exact hK24 _ (n24,(s22_25+1),x45) (Weak.toFA (by(intro id_ o_ he_); (have e_id35_38:id_≠id35_38:=fun e_=>by rw [e_] at he_; simp [Heap.set,hid35_38,ne_id35_38_tk18_4,ne_id35_38_id18_3] at he_); (have e_id40_40:id_≠id40_40:=fun e_=>by rw [e_] at he_; simp [Heap.set,hid40_40,ne_id40_40_tk18_4,ne_id40_40_id18_3] at he_); (rw [<- he_]); (simp only [Heap.set,if_neg e_id35_38,if_neg e_id40_40]); (first|done|rfl))) hE (Nat.lt_succ_self _)
    refine AWp.exit ?_;exact hK5 _ y26_id18_3 Weak.toA hE
 rintro y6_id18_3 hE;try dsimp only at hE
 unfold Z23_j5 at hE;refine seqJH (TA 5 KeepsT.nil) (fun(z:Z1)=>[]) (fun z=>((H.set tk18_4 (some (.tok 2 z.Fout.l.length))).set id18_3 (some (.cells (Z1.cg (some tk18_4) z))))) (fun z=>Z23_j7 z=some r) ?_ ?_
 ·intro K7 hK7;refine seqR (S Fv (S Ld ?_));refine sLen (f:=Z6.c) (s:=a1.FFrags) (TK rfl) rfl rfl rfl rfl fun hL11=>?_;refine S Mv (nil ?_);refine block ?_;refine loopH (TA 5 (TA 73 (TA 74 KeepsT.nil))) (fun(z:Nat×Nat×Z1)=>[(75,.a (.d (.int .i64 ((z.2.1:Nat):Int))))]) (fun z=>((H.set tk18_4 (some (.tok 2 z.2.2.Fout.l.length))).set id18_3 (some (.cells (Z1.cg (some tk18_4) z.2.2))))) (fun z=>z.1) (fun z=>Z23_l12 a1 z.1 z.2.1 z.2.2=some r) ((a1.FFrags.l.length+1),0,y6_id18_3) hE Weak.toA ?_
  rintro ⟨n12,s75_13,y14_id18_3⟩ hE K12 hK12;try dsimp only at hE
  cases n12 with
  | zero=>cases hE
  | succ n12 =>
    rw [Z23_l12] at hE;refine seqR (S BI (nil ?_));refine seqK fun K16 hK16=>?_;refine cE hE (fun hc17 hE=>?_) (fun hc17 hE=>?_)
    ·try dsimp only at hc17
     have hf17:=of_decide_eq_true hc17;refine sk hK16 ?_;clear hK16 K16;refine seqK fun K18 hK18=>?_;refine block ?_;refine seqR ?_;obtain⟨x20,gx20,hE⟩:=bO hE;refine S (ix Z6.c s75_13 gx20) (S Ld ?_);refine Sl ?_;refine Sf ?_;refine nil ?_;refine freezeA 14 _ rfl (KA 5 (KA 73 (KA 74 (KA 75 Keeps.nil)))) ?_;refine region ?_;refine S Mv (S Fv (S Ld (S Fv (S Ld (S Fv (S Ld ?_))))));obtain⟨x21,gx21,hE⟩:=bO hE
     refine sH (callH rfl rfl (fields_checker_sels_walk gx21 _ hpG hpG)) rfl ?_;refine hq ((H.set tk18_4 (some (.tok 2 x21.Fout.l.length))).set id18_3 (some (.cells (Z1.cg (some tk18_4) x21)))) ?_;refine nil ?_;refine hK18 _ ?_;clear hK18 K18;refine region ?_;refine SI ?_;refine S Mv (nil ?_);exact hK12 _ (n12,(s75_13+1),x21) Weak.toA hE (Nat.lt_succ_self _)
    refine AWp.exit ?_;exact hK7 _ y14_id18_3 Weak.toA hE
 rintro y8_id18_3 hE;try dsimp only at hE
 unfold Z23_j7 at hE;refine seqR (S Mv (S NP ?_));refine s0 (fieldP (TK rfl) rfl rfl (TK rfl) rfl rfl) rfl ?_;refine s0 (loadP (TK rfl) rfl rfl hpG rfl) rfl ?_;refine S As (nil ?_);refine AWp.dropTok 4 rfl ?_;refine AWp.ret ?_;repeat (first|refine xBlock_ret ?_|refine xThen_ret ?_)
 obtain rfl:=Option.some.inj hE;refine retQ.retF H rfl ⟨rfl,rfl⟩ ?_;intro id_ o_ he_;have e_tk18_4:id_≠tk18_4:=fun e_=>by subst e_; simp_all [Heap.set]
 have e_id18_3:id_≠id18_3:=fun e_=>by subst e_; simp_all [Heap.set]
 rw [<- he_];simp only [Heap.set] at he_ ⊢
 (repeat' split)<;>simp_all
def Z59 (a0:TRef):Option Bool:=guardO ((decide ((0:Int)<((a0.FWraps.l.length:Nat):Int)))) (a0.FWraps.l[0]?) (0:Int) fun x4=>some ((decide ((0:Int)<((a0.FWraps.l.length:Nat):Int)))&&(decide (x4=(1:Int))))
theorem Z59_walk {a0:TRef}{r:Bool}(hE:Z59 a0=some r) (H:Heap) :ACalls Tryz.prog 64 [.agg (TRef.c a0)] H fun v h'=>v=.a (.d (.bool r))/\h'=H:=by
 unfold Z59 at hE;refine ACalls.oW 14 [.tmp 2] Tryz.call64 Tryz.func64 ?_;refine seqR (S BX (S As (nil ?_)));refine seqR (S Fv (S Ld ?_));refine sLen (f:=(intE .i64)) (s:=a0.FWraps) (TK rfl) rfl rfl rfl rfl fun hL3=>?_;refine S BI (S Mv (G0 Fv ?_));refine G1 8 rfl Ld ?_;obtain⟨x4,gx4,hE⟩:=gO hE;refine gC rfl rfl (fun hC=>ungdA (k:=9) rfl (idxMn (f:=(intE .i64)) (n:=0) (TK rfl) rfl (TK rfl) rfl rfl rfl (gx4 hC))) rfl ?_
 refine G1 10 rfl Ld ?_;refine G1 11 rfl BI ?_;refine S PA (S As (nil ?_));exact rt hE
def Z65 (a0:Int) (a1:TRef):Option TRef:=(appC 8 (⟨false,[a0]⟩:Sl Int) a1.FWraps).bind fun x3=>some (TRef.mk a1.FName x3)
theorem Z65_walk {a0:Int}{a1 r:TRef}(hE:Z65 a0 a1=some r) (H:Heap) :ACalls Tryz.prog 65 [.d (.int .i64 a0),.agg (TRef.c a1)] H fun v h'=>v=.a (.agg (TRef.c r))/\h'=H:=by
 unfold Z65 at hE;refine ACalls.oW 13 [.cell 4 90] Tryz.call65 Tryz.func65 ?_;refine seqR (S BX ?_);refine Sl ?_;refine nil ?_;refine AWp.seqD (Sd Fv (Sd Ld (Sd Mv ?_)));refine DOps.s0 (buildSliceF (TK rfl) rfl (TK rfl) rfl rfl rfl rfl rfl rfl) rfl ?_;refine Sd Fv (Sd Ld ?_);obtain⟨x3,gx3,hE⟩:=bO hE;refine DOps.s0 (appFM (f:=(intE .i64)) (TK rfl) rfl (TK rfl) (TK rfl) ⟨_,rfl⟩ rfl rfl (by decide) rfl rfl rfl (by intro q h; cases h<;>decide) rfl rfl gx3) rfl ?_
 refine Sd BU ?_;refine DOps.sLn (storeLFA (TK rfl) rfl rfl rfl rfl rfl) ?_;refine DOps.nil (by decide +kernel) ?_;exact rt hE
end Go.Proofs

namespace Go.Proofs
open Go Go.Ab
open AOps Cert AWp Keeps KeepsT
variable {lou:Lou}
def Z61 (a0:TRef):Option TRef:=(Z59 a0).bind fun x4=>bif x4 then((appC 8 (⟨false,[]⟩:Sl Int) a0.FWraps).bind fun x7=>some (TRef.mk a0.FName x7)) else((Z65 (1:Int) a0).bind fun x9=>some x9)
theorem Z61_walk {a0 r:TRef}(hE:Z61 a0=some r) (H:Heap) :ACalls Tryz.prog 36 [.agg (TRef.c a0)] H fun v h'=>v=.a (.agg (TRef.c r))/\h'=H:=by
 unfold Z61 at hE;refine ACalls.oW 14 [.cell 2 90] Tryz.call36 Tryz.func36 ?_;refine seqR (S BX ?_);refine Sl ?_;refine nil ?_;refine seqK fun K2 hK2=>?_;refine seqR (S Ld ?_);obtain⟨x4,gx4,hE⟩:=bO hE;refine Sc rfl rfl (Z59_walk gx4) ?_;refine nil ?_;refine cE hE (fun hc5 hE=>?_) (fun hc5 hE=>?_)
 ·refine AWp.seqD (Sd Fv (Sd Ld ?_));refine DOps.s0 (buildSliceF (TK rfl) rfl (TK rfl) rfl rfl rfl rfl rfl rfl) rfl ?_;refine Sd Fv (Sd Ld ?_);obtain⟨x7,gx7,hE⟩:=bO hE;refine DOps.s0 (appFM (f:=(intE .i64)) (TK rfl) rfl (TK rfl) (TK rfl) ⟨_,rfl⟩ rfl rfl (by decide) rfl rfl rfl (by intro q h; cases h<;>decide) rfl rfl gx7) rfl ?_;refine Sd BU ?_;refine DOps.sLn (storeLFA (TK rfl) rfl rfl rfl rfl rfl) ?_
  refine DOps.nil (by decide +kernel) ?_;exact rt hE
 refine sk hK2 ?_;clear hK2 K2;refine seqR (S Ld ?_);obtain⟨x9,gx9,hE⟩:=bO hE;refine Sc rfl rfl (Z65_walk gx9) ?_;refine Sf ?_;refine nil ?_;exact rt hE
def Z60 (a0:Bs):Option TRef:=some (TRef.mk a0 (Sl.nil:Sl Int))
theorem Z60_walk {a0:Bs}{r:TRef}(hE:Z60 a0=some r) (H:Heap) :ACalls Tryz.prog 37 [.d (.str a0)] H fun v h'=>v=.a (.agg (TRef.c r))/\h'=H:=by
 unfold Z60 at hE;refine ACalls.oW 5 [.cell 2 90] Tryz.call37 Tryz.func37 ?_;refine seqR ?_;refine Sl ?_;refine nil ?_;refine seqR (S Mv (S BU ?_));refine Sf ?_;refine nil ?_;exact rt hE
def Z48 :Option TDoc:=(Z60 ([73,110,116]:Bs)).bind fun x3=>(Z61 x3).bind fun x4=>(Z60 ([73,110,116]:Bs)).bind fun x6=>some (TDoc.mk (⟨false,[(TDef.mk (1:Int) ([81,117,101,114,121]:Bs) (Sl.nil:Sl Bs) (Sl.nil:Sl TDir) (⟨false,[(Z5.mk ([97]:Bs) (⟨false,[(Z7.mk ([110]:Bs) x4 false Z10.zero (Sl.nil:Sl TDir))]⟩:Sl Z7) x6 (Sl.nil:Sl TDir))]⟩:Sl Z5) (Sl.nil:Sl Z8) (Sl.nil:Sl Z7)),(TDef.mk (3:Int) ([85]:Bs) (Sl.nil:Sl Bs) (Sl.nil:Sl TDir) (Sl.nil:Sl Z5) (⟨false,[(Z8.mk ([81,117,101,114,121]:Bs) (Sl.nil:Sl TDir))]⟩:Sl Z8) (Sl.nil:Sl Z7))]⟩:Sl TDef))
theorem Z48_walk    {r:TDoc}(hE:Z48 =some r) (H:Heap) :ACalls Tryz.prog 33 [] H fun v h'=>v=.a (.agg (TDoc.c r))/\h'=H:=by
 unfold Z48 at hE;refine ACalls.oW 16 [.cell 0 24] Tryz.call33 Tryz.func33 ?_;refine seqR ?_;refine Sl ?_;refine nil ?_;refine seqR ?_;obtain⟨x3,gx3,hE⟩:=bO hE;refine Sc rfl rfl (Z60_walk gx3) ?_;obtain⟨x4,gx4,hE⟩:=bO hE;refine Sc rfl rfl (Z61_walk gx4) ?_;refine S BU ?_;refine Sl ?_;refine Sf ?_;refine nil ?_;refine freezeA 1 _ rfl (KA 0 Keeps.nil) ?_;refine AWp.seqD ?_;obtain⟨x6,gx6,hE⟩:=bO hE;refine Scd rfl rfl (Z60_walk gx6) ?_
 refine Sd Ld (Sd BV (Sd BU (Sd BV (Sd BU (Sd BU (Sd BV (Sd BU (Sd BV (Sd BU ?_)))))))));refine DOps.sLn (storeLFA (TK rfl) rfl rfl rfl rfl rfl) ?_;refine DOps.nil (by decide +kernel) ?_;exact rt hE
theorem eqt_87:eqTab Tryz.prog 87=some [.int .i64,.str]:=by kernel_rfl
def Z83_j8  :Option Bool:=some true
def Z83_l11 (a0:(Sl Z4)) (a1:(Sl Z4)) :Nat->Nat->Option Bool
 | 0,_=>none
 | n11+1,s5_12=>bif (decide (((s5_12:Nat):Int)<((a0.l.length:Nat):Int))) then((a0.l[s5_12]?).bind fun x19=>(a1.l[s5_12]?).bind fun x20=>bif (!(decide (x19.FErr=x20.FErr)&&((x19.FAt==x20.FAt)&&true))) then(some false) else((Z83_l11 a0 a1 n11) (s5_12+1))) else(Z83_j8   )
def Z83 (a0:(Sl Z4)) (a1:(Sl Z4)):Option Bool:=bif (!decide (((a0.l.length:Nat):Int)=((a1.l.length:Nat):Int))) then(some false) else(Z83_l11 a0 a1 (a0.l.length+1) 0)
theorem Z83_walk {a0 a1:Sl Z4}{w0 w1:Option Nat}{r:Bool}(hE:Z83 a0 a1=some r) (H:Heap) :ACalls Tryz.prog 34 [.d (Sl.d 2 Z4.c w0 a0),.d (Sl.d 2 Z4.c w1 a1)] H fun v h'=>v=.a (.d (.bool r))/\h'=H:=by
 unfold Z83 at hE;refine ACalls.oW 26 [.tmp 4] Tryz.call34 Tryz.func34 ?_;refine seqR (S As (nil ?_));refine seqK fun K2 hK2=>?_;refine seqR (S Mv ?_);refine sLen (f:=Z4.c) (s:=a0) (TK rfl) rfl rfl rfl rfl fun hL4=>?_;refine S Mv ?_;refine sLen (f:=Z4.c) (s:=a1) (TK rfl) rfl rfl rfl rfl fun hL5=>?_;refine S BI (nil ?_);refine cE hE (fun hc6 hE=>?_) (fun hc6 hE=>?_)
 ·refine seqR (S As (nil ?_));exact rt hE
 refine sk hK2 ?_;clear hK2 K2;refine seqJH KeepsT.nil (fun(z:Unit)=>[]) (fun z=>H) (fun z=>Z83_j8 =some r) ?_ ?_
 ·intro K8 hK8;refine seqR (S As (nil ?_));refine block ?_;refine loopH (TA 0 (TA 1 KeepsT.nil)) (fun(z:Nat×Nat)=>[(5,.a (.d (.int .i64 ((z.2:Nat):Int))))]) (fun z=>H) (fun z=>z.1) (fun z=>Z83_l11 a0 a1 z.1 z.2=some r) ((a0.l.length+1),0) hE Weak.toA ?_;rintro ⟨n11,s5_12⟩ hE K11 hK11;try dsimp only at hE
  cases n11 with
  | zero=>cases hE
  | succ n11 =>
    rw [Z83_l11] at hE;refine seqK fun K13 hK13=>?_;refine seqR (S Mv (S Mv ?_));refine sLen (f:=Z4.c) (s:=a0) (TK rfl) rfl rfl rfl rfl fun hL15=>?_;refine S BI (nil ?_);refine cE hE (fun hc16 hE=>?_) (fun hc16 hE=>?_)
    ·try dsimp only at hc16
     have hf16:=of_decide_eq_true hc16;refine sk hK13 ?_;clear hK13 K13;refine seqK fun K17 hK17=>?_;refine block ?_;refine AWp.seqD (Sd Mv (Sd Mv ?_));obtain⟨x19,gx19,hE⟩:=bO hE;refine Sd (ix Z4.c s5_12 gx19) (Sd Ld (Sd Mv (Sd Mv ?_)));obtain⟨x20,gx20,hE⟩:=bO hE;refine Sd (ix Z4.c s5_12 gx20) (Sd Ld ?_);refine DOps.s0 (neStruct eqt_87 rfl rfl rfl rfl) rfl ?_;refine DOps.nil (by decide +kernel) ?_
     refine cE hE (fun hc21 hE=>?_) (fun hc21 hE=>?_)
     ·refine seqR (S As (nil ?_));exact rt hE
     refine sk hK17 ?_;clear hK17 K17;refine region ?_;refine S Mv ?_;refine SI ?_;refine S As (nil ?_);exact hK11 _ (n11,(s5_12+1)) Weak.toA hE (Nat.lt_succ_self _)
    refine AWp.exit ?_;exact hK8 _ () Weak.toA hE
 rintro _ hE;try dsimp only at hE
 unfold Z83_j8 at hE;refine seqR (S As (nil ?_));exact rt hE
def Z64_j8  :Option Bool:=some true
def Z64_l11 (a0:(Sl Int)) (a1:(Sl Int)) :Nat->Nat->Option Bool
 | 0,_=>none
 | n11+1,s5_12=>bif (decide (((s5_12:Nat):Int)<((a0.l.length:Nat):Int))) then((a0.l[s5_12]?).bind fun x19=>(a1.l[s5_12]?).bind fun x20=>bif (!decide (x19=x20)) then(some false) else((Z64_l11 a0 a1 n11) (s5_12+1))) else(Z64_j8   )
def Z64 (a0:(Sl Int)) (a1:(Sl Int)):Option Bool:=bif (!decide (((a0.l.length:Nat):Int)=((a1.l.length:Nat):Int))) then(some false) else(Z64_l11 a0 a1 (a0.l.length+1) 0)
theorem Z64_walk {a0 a1:Sl Int}{w0 w1:Option Nat}{r:Bool}(hE:Z64 a0 a1=some r) (H:Heap) :ACalls Tryz.prog 63 [.d (Sl.d 1 (intE .i64) w0 a0),.d (Sl.d 1 (intE .i64) w1 a1)] H fun v h'=>v=.a (.d (.bool r))/\h'=H:=by
 unfold Z64 at hE;refine ACalls.oW 26 [.tmp 4] Tryz.call63 Tryz.func63 ?_;refine seqR (S As (nil ?_));refine seqK fun K2 hK2=>?_;refine seqR (S Mv ?_);refine sLen (f:=(intE .i64)) (s:=a0) (TK rfl) rfl rfl rfl rfl fun hL4=>?_;refine S Mv ?_;refine sLen (f:=(intE .i64)) (s:=a1) (TK rfl) rfl rfl rfl rfl fun hL5=>?_;refine S BI (nil ?_);refine cE hE (fun hc6 hE=>?_) (fun hc6 hE=>?_)
 ·refine seqR (S As (nil ?_));exact rt hE
 refine sk hK2 ?_;clear hK2 K2;refine seqJH KeepsT.nil (fun(z:Unit)=>[]) (fun z=>H) (fun z=>Z64_j8 =some r) ?_ ?_
 ·intro K8 hK8;refine seqR (S As (nil ?_));refine block ?_;refine loopH (TA 0 (TA 1 KeepsT.nil)) (fun(z:Nat×Nat)=>[(5,.a (.d (.int .i64 ((z.2:Nat):Int))))]) (fun z=>H) (fun z=>z.1) (fun z=>Z64_l11 a0 a1 z.1 z.2=some r) ((a0.l.length+1),0) hE Weak.toA ?_;rintro ⟨n11,s5_12⟩ hE K11 hK11;try dsimp only at hE
  cases n11 with
  | zero=>cases hE
  | succ n11 =>
    rw [Z64_l11] at hE;refine seqK fun K13 hK13=>?_;refine seqR (S Mv (S Mv ?_));refine sLen (f:=(intE .i64)) (s:=a0) (TK rfl) rfl rfl rfl rfl fun hL15=>?_;refine S BI (nil ?_);refine cE hE (fun hc16 hE=>?_) (fun hc16 hE=>?_)
    ·try dsimp only at hc16
     have hf16:=of_decide_eq_true hc16;refine sk hK13 ?_;clear hK13 K13;refine seqK fun K17 hK17=>?_;refine block ?_;refine AWp.seqD (Sd Mv (Sd Mv ?_));obtain⟨x19,gx19,hE⟩:=bO hE;refine Sd (ix (intE .i64) s5_12 gx19) ?_;refine Sd Ld (Sd Mv (Sd Mv ?_));obtain⟨x20,gx20,hE⟩:=bO hE;refine Sd (ix (intE .i64) s5_12 gx20) ?_;refine Sd Ld (Sd BI ?_);refine DOps.nil (by decide +kernel) ?_;refine cE hE (fun hc21 hE=>?_) (fun hc21 hE=>?_)
     ·refine seqR (S As (nil ?_));exact rt hE
     refine sk hK17 ?_;clear hK17 K17;refine region ?_;refine S Mv ?_;refine SI ?_;refine S As (nil ?_);exact hK11 _ (n11,(s5_12+1)) Weak.toA hE (Nat.lt_succ_self _)
    refine AWp.exit ?_;exact hK8 _ () Weak.toA hE
 rintro _ hE;try dsimp only at hE
 unfold Z64_j8 at hE;refine seqR (S As (nil ?_));exact rt hE
def Z63 (a0:TRef) (a1:TRef):Option Bool:=guardO (((a0.FName==a1.FName))) (Z64 a0.FWraps a1.FWraps) false fun x3=>some (((a0.FName==a1.FName))&&x3)
theorem Z63_walk {a0 a1:TRef}{r:Bool}(hE:Z63 a0 a1=some r) (H:Heap) :ACalls Tryz.prog 35 [.agg (TRef.c a0),.agg (TRef.c a1)] H fun v h'=>v=.a (.d (.bool r))/\h'=H:=by
 unfold Z63 at hE;refine ACalls.oW 17 [.tmp 4] Tryz.call35 Tryz.func35 ?_;refine seqR (S BX (S BX (S As (nil ?_))));refine seqR (S Fv (S Ld (S Fv (S Ld (S BS (S Mv (G0 Fv ?_)))))));refine G1 11 rfl Ld ?_;refine G0 Fv ?_;refine G1 13 rfl Ld ?_;obtain⟨x3,gx3,hE⟩:=gO hE;refine Gc2 12 14 rfl rfl rfl rfl rfl rfl (fun hC=>Z64_walk (gx3 hC)) ?_;refine S PA (S As (nil ?_));exact rt hE
def Z46 :Option Bool:=(Z48 ).bind fun x5=>(Z24 x5 ([85]:Bs) ([95,95,116,121,112,101,110,97,109,101]:Bs)).bind fun x6=>(Z48 ).bind fun x8=>(Z24 x8 ([85]:Bs) ([97]:Bs)).bind fun x9=>(Z48 ).bind fun x11=>(Z23 x11 (Z9.mk (⟨false,[(TOp.mk (1:Int) ([]:Bs) (Sl.nil:Sl TVar) (⟨false,[(TSel.mk (1:Int) ([]:Bs) ([98]:Bs) ([]:Bs) (Sl.nil:Sl TArg) (Sl.nil:Sl TDir) true ([])),(TSel.mk (1:Int) ([]:Bs) ([97]:Bs) ([]:Bs) (Sl.nil:Sl TArg) (Sl.nil:Sl TDir) ((⟨false,[(TSel.mk (1:Int) ([]:Bs) ([99]:Bs) ([]:Bs) (Sl.nil:Sl TArg) (Sl.nil:Sl TDir) true ([]))]⟩:Sl TSel).nl) ((⟨false,[(TSel.mk (1:Int) ([]:Bs) ([99]:Bs) ([]:Bs) (Sl.nil:Sl TArg) (Sl.nil:Sl TDir) true ([]))]⟩:Sl TSel).l))]⟩:Sl TSel))]⟩:Sl TOp) (Sl.nil:Sl Z6))).bind fun x12=>(Z83 x12 (⟨false,[(Z4.mk (20:Int) ([47,98]:Bs)),(Z4.mk (21:Int) ([47,97]:Bs)),(Z4.mk (22:Int) ([47,97]:Bs))]⟩:Sl Z4)).bind fun x13=>guardO ((x13&&x6.2)) (Z60 ([83,116,114,105,110,103]:Bs)) TRef.zero fun x14=>guardO ((x13&&x6.2)) (Z61 x14) TRef.zero fun x15=>guardO ((x13&&x6.2)) (Z63 x6.1 x15) false fun x16=>some (((x13&&x6.2)&&x16)&&(!x9.2))
theorem Z46_walk    {r:Bool}(hE:Z46 =some r) (H:Heap) :ACalls Tryz.prog 9 [] H fun v h'=>v=.a (.d (.bool r))/\h'=H:=by
 unfold Z46 at hE;refine ACalls.oW 47 [.tmp 0] Tryz.call9 Tryz.func9 ?_;refine seqR (S As (nil ?_));refine seqR (S BU (S BU (S BV (S BU (S BV (S BU (S BV (S BU ?_))))))));refine Sl ?_;refine Sf ?_;refine nil ?_;refine freezeA 1 _ rfl Keeps.nil ?_;refine seqR (S BU (S BU (S BU (S BV (S As (nil ?_))))));refine seqR ?_;obtain⟨x5,gx5,hE⟩:=bO hE;refine Sc rfl rfl (Z48_walk gx5) ?_;obtain⟨x6,gx6,hE⟩:=bO hE
 refine Sc rfl rfl (Z24_walk gx6) ?_;refine S Mv (S EX (S EX ?_));refine Sl ?_;refine Sf ?_;refine S As (nil ?_);refine freezeA 3 _ rfl (KA 1 (KA 2 (KA 4 Keeps.nil))) ?_;refine seqR ?_;obtain⟨x8,gx8,hE⟩:=bO hE;refine Sc rfl rfl (Z48_walk gx8) ?_;obtain⟨x9,gx9,hE⟩:=bO hE;refine Sc rfl rfl (Z24_walk gx9) ?_;refine S Mv (S EX (S EX ?_));refine Sl ?_;refine Sf ?_;refine S As (nil ?_);refine freezeA 5 _ rfl (KA 1 (KA 2 (KA 3 (KA 4 (KA 6 Keeps.nil))))) ?_
 refine AWp.seqD ?_;obtain⟨x11,gx11,hE⟩:=bO hE;refine Scd rfl rfl (Z48_walk gx11) ?_;refine Sd Ld ?_;obtain⟨x12,gx12,hE⟩:=bO hE;refine Scd rfl rfl (Z23_walk gx12) ?_;refine Sd Mv ?_;obtain⟨x13,gx13,hE⟩:=bO hE;refine Scd rfl rfl (Z83_walk gx13) ?_;refine Sd Mv (G0d Mv (Sd PA (Sd Mv (G0d Ld ?_))));obtain⟨x14,gx14,hE⟩:=gO hE;refine Gc0d rfl rfl rfl rfl (fun hC=>Z60_walk (gx14 hC)) ?_;obtain⟨x15,gx15,hE⟩:=gO hE
 refine Gc1d 39 rfl rfl rfl rfl rfl (fun hC=>Z61_walk (gx15 hC)) ?_;obtain⟨x16,gx16,hE⟩:=gO hE;refine Gc2d 38 40 rfl rfl rfl rfl rfl rfl (fun hC=>Z63_walk (gx16 hC)) ?_;refine Sd PA (Sd Mv (G0d Mv ?_));refine G1d 44 rfl NB ?_;refine Sd PA (Sd As ?_);refine DOps.nil (by decide +kernel) ?_;exact rt hE
def Z49_j2  :Option Bool:=some true
def Z49_j11 (s7_6:Nat) (k_next_5:Nat->Option Bool) :Option Bool:=k_next_5 (s7_6+1)
def Z49_j13 (a0:TDoc) (a1:(Sl TSel)) (s7_6:Nat) (k_next_5:Nat->Option Bool) (k_rec_10:TDoc->(Sl TSel)->Bs->Option Bool) (s8_14:Bs):Option Bool:=(a1.l[s7_6]?).bind fun x16=>(k_rec_10 a0 x16.FSels s8_14).bind fun x17=>bif (!x17) then(some false) else(Z49_j11 s7_6 k_next_5 )
def Z49_l5 (a0:TDoc) (a1:(Sl TSel)) (a2:Bs) (k_rec_10:TDoc->(Sl TSel)->Bs->Option Bool):Nat->Nat->Option Bool
 | 0,_=>none
 | n5+1,s7_6=>bif (decide (((s7_6:Nat):Int)<((a1.l.length:Nat):Int))) then((a1.l[s7_6]?).bind fun x21=>bif (decide (x21.FKind=(2:Int))) then(Z49_j11 s7_6 ((Z49_l5 a0 a1 a2 k_rec_10 n5)) ) else(bif (decide (x21.FKind=(3:Int))) then((a1.l[s7_6]?).bind fun x27=>bif (!(x27.FOn==([]:Bs))) then((a1.l[s7_6]?).bind fun x29=>Z49_j13 a0 a1 s7_6 ((Z49_l5 a0 a1 a2 k_rec_10 n5)) k_rec_10 x29.FOn) else(Z49_j13 a0 a1 s7_6 ((Z49_l5 a0 a1 a2 k_rec_10 n5)) k_rec_10 a2)) else((a1.l[s7_6]?).bind fun x31=>(Z24 a0 a2 x31.FName).bind fun x32=>bif (!x32.2) then(some false) else(Z49_j13 a0 a1 s7_6 ((Z49_l5 a0 a1 a2 k_rec_10 n5)) k_rec_10 x32.1.FName)))) else(Z49_j2   )
def Z49_n:Nat->TDoc->(Sl TSel)->Bs->Option Bool
 | 0,_,_,_=>none
 | n+1,a0,a1,a2=>Z49_l5 a0 a1 a2 (Z49_n n) (a1.l.length+1) 0
theorem Z49_step (n:Nat) (ih_10:∀{a0:TDoc}{a1:Sl TSel}{a2:Bs}{w1:Option Nat}{r:Bool},Z49_n n a0 a1 a2=some r->∀(H:Heap),ACalls Tryz.prog 10 [.agg (TDoc.c a0),.d (Sl.d 7 TSel.c w1 a1),.d (.str a2)] H fun v h'=>v=.a (.d (.bool r))/\h'=H):∀{a0:TDoc}{a1:Sl TSel}{a2:Bs}{w1:Option Nat}{r:Bool},Z49_n (n+1) a0 a1 a2=some r->∀(H:Heap),ACalls Tryz.prog 10 [.agg (TDoc.c a0),.d (Sl.d 7 TSel.c w1 a1),.d (.str a2)] H fun v h'=>v=.a (.d (.bool r))/\h'=H:=by
 intro a0 a1 a2 w1  r hE H ;rw [Z49_n] at hE;refine ACalls.oW 62 [.tmp 6] Tryz.call10 Tryz.func10 ?_;refine seqR (S BX (S As (nil ?_)));refine seqJH KeepsT.nil (fun(z:Unit)=>[]) (fun z=>H) (fun z=>Z49_j2 =some r) ?_ ?_
 ·intro K2 hK2;refine seqR (S As (nil ?_));refine block ?_;refine loopH (TA 1 (TA 2 (TA 3 KeepsT.nil))) (fun(z:Nat×Nat)=>[(7,.a (.d (.int .i64 ((z.2:Nat):Int))))]) (fun z=>H) (fun z=>z.1) (fun z=>Z49_l5 a0 a1 a2 (Z49_n n) z.1 z.2=some r) ((a1.l.length+1),0) hE Weak.toA ?_;rintro ⟨n5,s7_6⟩ hE K5 hK5;try dsimp only at hE
  cases n5 with
  | zero=>cases hE
  | succ n5 =>
    rw [Z49_l5] at hE;refine seqK fun K7 hK7=>?_;refine seqR (S Mv (S Mv ?_));refine sLen (f:=TSel.c) (s:=a1) (TK rfl) rfl rfl rfl rfl fun hL9=>?_;refine S BI (nil ?_);refine cE hE (fun hc10 hE=>?_) (fun hc10 hE=>?_)
    ·try dsimp only at hc10
     have hf10:=of_decide_eq_true hc10;refine sk hK7 ?_;clear hK7 K7;refine seqJH (TA 1 (TA 2 (TA 3 (TA 7 KeepsT.nil)))) (fun(z:Unit)=>[]) (fun z=>H) (fun z=>Z49_j11 s7_6 ((Z49_l5 a0 a1 a2 (Z49_n n) n5)) =some r) ?_ ?_
     ·intro K11 hK11;refine block ?_;refine seqR (S Mv (S As (nil ?_)));refine seqJH (TA 1 (TA 2 (TA 3 (TA 7 KeepsT.nil)))) (fun(z:Bs)=>[(8,.a (.d (.str z)))]) (fun z=>H) (fun z=>Z49_j13 a0 a1 s7_6 ((Z49_l5 a0 a1 a2 (Z49_n n) n5)) (Z49_n n) z=some r) ?_ ?_
      ·intro K13 hK13;refine seqR (S Mv (S Mv ?_));obtain⟨x21,gx21,hE⟩:=bO hE;refine S (ix TSel.c s7_6 gx21) (S Fv (S Ld (nil ?_)));refine block ?_;refine seqR (S BI (S As (nil ?_)));refine cE hE (fun hc23 hE=>?_) (fun hc23 hE=>?_)
       ·refine AWp.exit ?_;exact hK11 _ () Weak.toA hE
       refine seqR (S BI (S As (nil ?_)));refine cE hE (fun hc25 hE=>?_) (fun hc25 hE=>?_)
       ·refine seqR (S Mv (S Mv ?_));obtain⟨x27,gx27,hE⟩:=bO hE;refine S (ix TSel.c s7_6 gx27) (S Fv (S Ld (S BS (nil ?_))));refine cE hE (fun hc28 hE=>?_) (fun hc28 hE=>?_)
        ·refine region ?_;refine S Mv (S Mv ?_);obtain⟨x29,gx29,hE⟩:=bO hE;refine S (ix TSel.c s7_6 gx29) (S Fv (S Ld (S As (nil ?_))));exact hK13 _ x29.FOn Weak.toA hE
        refine AWp.skip ?_;exact hK13 _ a2 Weak.toA hE
       refine AWp.seqD (Sd Ld (Sd Mv (Sd Mv (Sd Mv ?_))));obtain⟨x31,gx31,hE⟩:=bO hE;refine Sd (ix TSel.c s7_6 gx31) (Sd Fv (Sd Ld ?_));obtain⟨x32,gx32,hE⟩:=bO hE;refine Scd rfl rfl (Z24_walk gx32) ?_;refine Sd Mv (Sd EX (Sd EX ?_));refine DOps.sB (TK rfl) rfl rfl ?_ (by repeat (first|exact Snoc.nil|apply Snoc.cons));refine DOps.sLn (storeLFA (TK rfl) rfl rfl rfl rfl rfl) ?_;refine Sd As ?_;refine DOps.nil (by decide +kernel) ?_
       refine freezeA 9 _ rfl (KA 1 (KA 2 (KA 3 (KA 7 (KA 10 Keeps.nil))))) ?_;refine seqK fun K33 hK33=>?_;refine seqR (S Mv (S NB (nil ?_)));refine cE hE (fun hc35 hE=>?_) (fun hc35 hE=>?_)
       ·refine seqR (S As (nil ?_));exact rt hE
       refine sk hK33 ?_;clear hK33 K33;refine region ?_;refine S Fv (S Ld (S As (nil ?_)));exact hK13 _ x32.1.FName Weak.toA hE
      rintro s8_14 hE;try dsimp only at hE
      unfold Z49_j13 at hE;refine AWp.seqD (Sd Ld (Sd Mv (Sd Mv ?_)));obtain⟨x16,gx16,hE⟩:=bO hE;refine Sd (ix TSel.c s7_6 gx16) (Sd Fv ?_);refine DOps.s0 (loadV (TK rfl) rfl rfl (congrArg (fun x=>some (A.d x)) (TSel.FSelsD_eq _))) rfl ?_;refine Sd Mv ?_;obtain⟨x17,gx17,hE⟩:=bO hE;refine Scd rfl rfl (ih_10 gx17) ?_;refine Sd NB ?_;refine DOps.nil (by decide +kernel) ?_;refine cE hE (fun hc18 hE=>?_) (fun hc18 hE=>?_)
      ·refine seqR (S As (nil ?_));exact rt hE
      refine AWp.skip ?_;exact hK11 _ () Weak.toA hE
     rintro _ hE;try dsimp only at hE
     unfold Z49_j11 at hE;refine region ?_;refine S Mv ?_;refine SI ?_;refine S As (nil ?_);exact hK5 _ (n5,(s7_6+1)) Weak.toA hE (Nat.lt_succ_self _)
    refine AWp.exit ?_;exact hK2 _ () Weak.toA hE
 rintro _ hE;try dsimp only at hE
 unfold Z49_j2 at hE;refine seqR (S As (nil ?_));exact rt hE
theorem Z49_all:∀(n:Nat),(∀{a0:TDoc}{a1:Sl TSel}{a2:Bs}{w1:Option Nat}{r:Bool},Z49_n n a0 a1 a2=some r->∀(H:Heap),ACalls Tryz.prog 10 [.agg (TDoc.c a0),.d (Sl.d 7 TSel.c w1 a1),.d (.str a2)] H fun v h'=>v=.a (.d (.bool r))/\h'=H)
 | 0=>fun hE=>by first|cases hE|(rw [Z49_n] at hE; cases hE)
 | n+1=>Z49_step n (Z49_all n)
def Z49 (a0:TDoc) (a1:(Sl TSel)) (a2:Bs):Option Bool:=Z49_n F0 a0 a1 a2
theorem Z49_walk {a0:TDoc}{a1:Sl TSel}{a2:Bs}{w1:Option Nat}{r:Bool}(hE:Z49 a0 a1 a2=some r) (H:Heap) :ACalls Tryz.prog 10 [.agg (TDoc.c a0),.d (Sl.d 7 TSel.c w1 a1),.d (.str a2)] H fun v h'=>v=.a (.d (.bool r))/\h'=H:=(Z49_all F0) hE H 
end Go.Proofs

namespace Go.Proofs
open Go Go.Ab
open AOps Cert AWp Keeps KeepsT
variable {lou:Lou}
def Z45_j13  :Option Bool:=(Z46 ).bind fun x15=>some x15
def Z45_l17 (a0:TDoc) (a1:Z9) :Nat->Nat->Option Bool
 | 0,_=>none
 | n17+1,s6_18=>bif (decide (((s6_18:Nat):Int)<((a1.FFrags.l.length:Nat):Int))) then((a1.FFrags.l[s6_18]?).bind fun x25=>(a1.FFrags.l[s6_18]?).bind fun x26=>(Z49 a0 x25.FSels x26.FOn).bind fun x27=>bif (!x27) then(some false) else((Z45_l17 a0 a1 n17) (s6_18+1))) else(Z45_j13   )
def Z45_j12 (a0:TDoc) (a1:Z9)  :Option Bool:=Z45_l17 a0 a1 (a1.FFrags.l.length+1) 0
def Z45_l31 (a0:TDoc) (a1:Z9) :Nat->Nat->Option Bool
 | 0,_=>none
 | n31+1,s5_32=>bif (decide (((s5_32:Nat):Int)<((a1.FOps.l.length:Nat):Int))) then((a1.FOps.l[s5_32]?).bind fun x39=>(a1.FOps.l[s5_32]?).bind fun x40=>(Z92 x40.FKind).bind fun x41=>(Z49 a0 x39.FSels x41).bind fun x42=>bif (!x42) then(some false) else((Z45_l31 a0 a1 n31) (s5_32+1))) else(Z45_j12 a0 a1  )
def Z45 (a0:TDoc) (a1:Z9):Option Bool:=(Z47 a0 a1).bind fun x4=>guardO (!(!x4)) (Z85 a0 true) (Sl.nil:Sl Z4) fun x5=>guardO (!((!x4)||(decide ((0:Int)<((x5.l.length:Nat):Int))))) (Z11 a0) (Sl.nil:Sl Z4) fun x6=>guardO (!(((!x4)||(decide ((0:Int)<((x5.l.length:Nat):Int))))||(decide ((0:Int)<((x6.l.length:Nat):Int))))) (Z37 a0 a1) (Sl.nil:Sl Z4) fun x7=>guardO (!((((!x4)||(decide ((0:Int)<((x5.l.length:Nat):Int))))||(decide ((0:Int)<((x6.l.length:Nat):Int))))||(decide ((0:Int)<((x7.l.length:Nat):Int))))) (Z23 a0 a1) (Sl.nil:Sl Z4) fun x8=>bif (((((!x4)||(decide ((0:Int)<((x5.l.length:Nat):Int))))||(decide ((0:Int)<((x6.l.length:Nat):Int))))||(decide ((0:Int)<((x7.l.length:Nat):Int))))||(decide ((0:Int)<((x8.l.length:Nat):Int)))) then((Z46 ).bind fun x11=>some x11) else(Z45_l31 a0 a1 (a1.FOps.l.length+1) 0)
theorem Z45_walk {a0:TDoc}{a1:Z9}{r:Bool}(hE:Z45 a0 a1=some r) (H:Heap) :ACalls Tryz.prog 3 [.agg (TDoc.c a0),.agg (Z9.c a1)] H fun v h'=>v=.a (.d (.bool r))/\h'=H:=by
 unfold Z45 at hE;refine ACalls.oW 84 [.tmp 4] Tryz.call3 Tryz.func3 ?_;refine seqR (S BX (S BX (S As (nil ?_))));refine seqK fun K2 hK2=>?_;refine seqR (S Ld (S Ld ?_));obtain⟨x4,gx4,hE⟩:=bO hE;refine Sc rfl rfl (Z47_walk gx4) ?_;refine S NB (S Mv (G0 Ld ?_));obtain⟨x5,gx5,hE⟩:=gO hE;refine Gc1 12 rfl rfl rfl rfl rfl (fun hC=>Z85_walk (gx5 hC)) ?_;refine gC rfl rfl (fun hC=>ungdA (k:=13) rfl (lenM' (f:=Z4.c) (s:=x5) (TK rfl) rfl rfl rfl)) rfl ?_
 refine G1 14 rfl BI ?_;refine S PO (S Mv (G0 Ld ?_));obtain⟨x6,gx6,hE⟩:=gO hE;refine Gc1 18 rfl rfl rfl rfl rfl (fun hC=>Z11_walk (gx6 hC)) ?_;refine gC rfl rfl (fun hC=>ungdA (k:=19) rfl (lenM' (f:=Z4.c) (s:=x6) (TK rfl) rfl rfl rfl)) rfl ?_;refine G1 20 rfl BI ?_;refine S PO (S Mv (G0 Ld (G0 Ld ?_)));obtain⟨x7,gx7,hE⟩:=gO hE;refine Gc2 24 25 rfl rfl rfl rfl rfl rfl (fun hC=>Z37_walk (gx7 hC)) ?_
 refine gC rfl rfl (fun hC=>ungdA (k:=26) rfl (lenM' (f:=Z4.c) (s:=x7) (TK rfl) rfl rfl rfl)) rfl ?_;refine G1 27 rfl BI ?_;refine S PO (S Mv (G0 Ld (G0 Ld ?_)));obtain⟨x8,gx8,hE⟩:=gO hE;refine Gc2 31 32 rfl rfl rfl rfl rfl rfl (fun hC=>Z23_walk (gx8 hC)) ?_;refine gC rfl rfl (fun hC=>ungdA (k:=33) rfl (lenM' (f:=Z4.c) (s:=x8) (TK rfl) rfl rfl rfl)) rfl ?_;refine G1 34 rfl BI ?_;refine S PO (nil ?_)
 refine cE hE (fun hc9 hE=>?_) (fun hc9 hE=>?_)
 ·refine seqR ?_;obtain⟨x11,gx11,hE⟩:=bO hE;refine Sc rfl rfl (Z46_walk gx11) ?_;refine S As (nil ?_);exact rt hE
 refine sk hK2 ?_;clear hK2 K2;refine seqJH (TA 2 (TA 3 KeepsT.nil)) (fun(z:Unit)=>[]) (fun z=>H) (fun z=>Z45_j12 a0 a1 =some r) ?_ ?_
 ·intro K12 hK12;refine seqR (S As (nil ?_));refine block ?_;refine loopH (TA 2 (TA 3 KeepsT.nil)) (fun(z:Nat×Nat)=>[(5,.a (.d (.int .i64 ((z.2:Nat):Int))))]) (fun z=>H) (fun z=>z.1) (fun z=>Z45_l31 a0 a1 z.1 z.2=some r) ((a1.FOps.l.length+1),0) hE Weak.toA ?_;rintro ⟨n31,s5_32⟩ hE K31 hK31;try dsimp only at hE
  cases n31 with
  | zero=>cases hE
  | succ n31 =>
    rw [Z45_l31] at hE;refine seqK fun K33 hK33=>?_;refine seqR (S Mv (S Fv (S Ld ?_)));refine sLen (f:=TOp.c) (s:=a1.FOps) (TK rfl) rfl rfl rfl rfl fun hL35=>?_;refine S BI (nil ?_);refine cE hE (fun hc36 hE=>?_) (fun hc36 hE=>?_)
    ·try dsimp only at hc36
     have hf36:=of_decide_eq_true hc36;refine sk hK33 ?_;clear hK33 K33;refine seqK fun K37 hK37=>?_;refine block ?_;refine AWp.seqD (Sd Ld (Sd Fv (Sd Ld (Sd Mv ?_))));obtain⟨x39,gx39,hE⟩:=bO hE;refine Sd (ix TOp.c s5_32 gx39) (Sd Fv (Sd Ld (Sd Fv (Sd Ld (Sd Mv ?_)))));obtain⟨x40,gx40,hE⟩:=bO hE;refine Sd (ix TOp.c s5_32 gx40) (Sd Fv (Sd Ld ?_));obtain⟨x41,gx41,hE⟩:=bO hE;refine Scd rfl rfl (Z92_walk gx41) ?_
     obtain⟨x42,gx42,hE⟩:=bO hE;refine Scd rfl rfl (Z49_walk gx42) ?_;refine Sd NB ?_;refine DOps.nil (by decide +kernel) ?_;refine cE hE (fun hc43 hE=>?_) (fun hc43 hE=>?_)
     ·refine seqR (S As (nil ?_));exact rt hE
     refine sk hK37 ?_;clear hK37 K37;refine region ?_;refine S Mv ?_;refine SI ?_;refine S As (nil ?_);exact hK31 _ (n31,(s5_32+1)) Weak.toA hE (Nat.lt_succ_self _)
    refine AWp.exit ?_;exact hK12 _ () Weak.toA hE
 rintro _ hE;try dsimp only at hE
 unfold Z45_j12 at hE;refine seqJH KeepsT.nil (fun(z:Unit)=>[]) (fun z=>H) (fun z=>Z45_j13 =some r) ?_ ?_
 ·intro K13 hK13;refine seqR (S As (nil ?_));refine block ?_;refine loopH (TA 2 (TA 3 KeepsT.nil)) (fun(z:Nat×Nat)=>[(6,.a (.d (.int .i64 ((z.2:Nat):Int))))]) (fun z=>H) (fun z=>z.1) (fun z=>Z45_l17 a0 a1 z.1 z.2=some r) ((a1.FFrags.l.length+1),0) hE Weak.toA ?_;rintro ⟨n17,s6_18⟩ hE K17 hK17;try dsimp only at hE
  cases n17 with
  | zero=>cases hE
  | succ n17 =>
    rw [Z45_l17] at hE;refine seqK fun K19 hK19=>?_;refine seqR (S Mv (S Fv (S Ld ?_)));refine sLen (f:=Z6.c) (s:=a1.FFrags) (TK rfl) rfl rfl rfl rfl fun hL21=>?_;refine S BI (nil ?_);refine cE hE (fun hc22 hE=>?_) (fun hc22 hE=>?_)
    ·try dsimp only at hc22
     have hf22:=of_decide_eq_true hc22;refine sk hK19 ?_;clear hK19 K19;refine seqK fun K23 hK23=>?_;refine block ?_;refine AWp.seqD (Sd Ld (Sd Fv (Sd Ld (Sd Mv ?_))));obtain⟨x25,gx25,hE⟩:=bO hE;refine Sd (ix Z6.c s6_18 gx25) (Sd Fv (Sd Ld (Sd Fv (Sd Ld (Sd Mv ?_)))));obtain⟨x26,gx26,hE⟩:=bO hE;refine Sd (ix Z6.c s6_18 gx26) (Sd Fv (Sd Ld ?_));obtain⟨x27,gx27,hE⟩:=bO hE;refine Scd rfl rfl (Z49_walk gx27) ?_
     refine Sd NB ?_;refine DOps.nil (by decide +kernel) ?_;refine cE hE (fun hc28 hE=>?_) (fun hc28 hE=>?_)
     ·refine seqR (S As (nil ?_));exact rt hE
     refine sk hK23 ?_;clear hK23 K23;refine region ?_;refine S Mv ?_;refine SI ?_;refine S As (nil ?_);exact hK17 _ (n17,(s6_18+1)) Weak.toA hE (Nat.lt_succ_self _)
    refine AWp.exit ?_;exact hK13 _ () Weak.toA hE
 rintro _ hE;try dsimp only at hE
 unfold Z45_j13 at hE;refine seqR ?_;obtain⟨x15,gx15,hE⟩:=bO hE;refine Sc rfl rfl (Z46_walk gx15) ?_;refine S As (nil ?_);exact rt hE
end Go.Proofs
