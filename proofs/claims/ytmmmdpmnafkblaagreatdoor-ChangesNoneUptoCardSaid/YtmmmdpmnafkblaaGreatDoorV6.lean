import Derived.Test.YtmmmdpmnafkblaaGreatDoorV5
set_option maxRecDepth 100000
set_option maxHeartbeats 2000000
set_option linter.unusedVariables false
set_option linter.unusedSimpArgs false
namespace Go.Proofs
open Go Go.Ab
open AOps Cert AWp Keeps KeepsT
variable {lou:Lou}
def Z71_j9 (a0:TDef) (a1:TDef)  :Option Bool:=(Z80 a0.FInputs a1.FInputs).bind fun x11=>some x11
def Z71_l13 (a0:TDef) (a1:TDef) :Nat->Nat->Option Bool
 | 0,_=>none
 | n13+1,s8_14=>bif (decide (((s8_14:Nat):Int)<((a0.FMembers.l.length:Nat):Int))) then((a0.FMembers.l[s8_14]?).bind fun x21=>(a1.FMembers.l[s8_14]?).bind fun x22=>guardO (!(!(x21.FName==x22.FName))) (a0.FMembers.l[s8_14]?) Z6.zero fun x23=>guardO (!(!(x21.FName==x22.FName))) (a1.FMembers.l[s8_14]?) Z6.zero fun x24=>guardO (!(!(x21.FName==x22.FName))) (Z72 x23.FDirs x24.FDirs) false fun x25=>bif ((!(x21.FName==x22.FName))||(!x25)) then(some false) else((Z71_l13 a0 a1 n13) (s8_14+1))) else(Z71_j9 a0 a1  )
def Z71_j8 (a0:TDef) (a1:TDef)  :Option Bool:=Z71_l13 a0 a1 (a0.FMembers.l.length+1) 0
def Z71_l29 (a0:TDef) (a1:TDef) :Nat->Nat->Option Bool
 | 0,_=>none
 | n29+1,s5_30=>bif (decide (((s5_30:Nat):Int)<((a0.FFields.l.length:Nat):Int))) then((a0.FFields.l[s5_30]?).bind fun x37=>(a1.FFields.l[s5_30]?).bind fun x38=>guardO (!(!(x37.FName==x38.FName))) (Z56 x37.FType x38.FType) false fun x40=>guardO (!((!(x37.FName==x38.FName))||(!x40))) (Z72 x37.FDirs x38.FDirs) false fun x41=>guardO (!(((!(x37.FName==x38.FName))||(!x40))||(!x41))) (Z80 x37.FArgs x38.FArgs) false fun x42=>bif ((((!(x37.FName==x38.FName))||(!x40))||(!x41))||(!x42)) then(some false) else((Z71_l29 a0 a1 n29) (s5_30+1))) else(Z71_j8 a0 a1  )
def Z71 (a0:TDef) (a1:TDef):Option Bool:=guardO (!((!decide (a0.FKind=a1.FKind))||(!(a0.FName==a1.FName)))) (Z81 a0.FImplements a1.FImplements) false fun x4=>guardO (!(((!decide (a0.FKind=a1.FKind))||(!(a0.FName==a1.FName)))||(!x4))) (Z72 a0.FDirs a1.FDirs) false fun x5=>bif ((((((!decide (a0.FKind=a1.FKind))||(!(a0.FName==a1.FName)))||(!x4))||(!x5))||(!decide (((a0.FFields.l.length:Nat):Int)=((a1.FFields.l.length:Nat):Int))))||(!decide (((a0.FMembers.l.length:Nat):Int)=((a1.FMembers.l.length:Nat):Int)))) then(some false) else(Z71_l29 a0 a1 (a0.FFields.l.length+1) 0)
theorem Z71_walk {a0 a1:TDef}{r:Bool}(hE:Z71 a0 a1=some r) (H:Heap) :AC Tryz.prog 17 [.agg (TDef.c a0),.agg (TDef.c a1)] H fun v h'=>v=.a (.d (.bool r))/\h'=H:=by
 unfold Z71 at hE;refine AC.oW 142 [.tmp 4] Tryz.call17 Tryz.func17 ?_;refine seqR (S BX (S BX (S As (nil ?_))));refine seqK fun K2 hK2=>?_;refine seqR (S Fv (S Ld (S Fv (S Ld (S BI (S Mv (G0 Fv ?_)))))));refine G1 15 rfl Ld ?_;refine G0 Fv ?_;refine G1 17 rfl Ld ?_;refine G2 16 18 rfl rfl BS ?_;refine S PO (S Mv (G0 Fv ?_));refine G1 22 rfl Ld ?_;refine G0 Fv ?_;refine G1 24 rfl Ld ?_;obtain⟨x4,gx4,hE⟩:=gO hE
 refine Gc2 23 25 rfl rfl rfl rfl rfl rfl (fun hC=>Z81_walk (gx4 hC)) ?_;refine G1 26 rfl NB ?_;refine S PO (S Mv (G0 Fv ?_));refine G1 30 rfl Ld ?_;refine G0 Fv ?_;refine G1 32 rfl Ld ?_;obtain⟨x5,gx5,hE⟩:=gO hE;refine Gc2 31 33 rfl rfl rfl rfl rfl rfl (fun hC=>Z72_walk (gx5 hC)) ?_;refine G1 34 rfl NB ?_;refine S PO (S Mv (G0 Fv ?_));refine G1 38 rfl Ld ?_;refine gC rfl rfl (fun hC=>ungdA (k:=39) rfl (lenM' (f:=Z4.c) (s:=a0.FFields) (TK rfl) rfl rfl rfl)) rfl ?_
 refine G0 Fv ?_;refine G1 41 rfl Ld ?_;refine gC rfl rfl (fun hC=>ungdA (k:=42) rfl (lenM' (f:=Z4.c) (s:=a1.FFields) (TK rfl) rfl rfl rfl)) rfl ?_;refine G2 40 43 rfl rfl BI ?_;refine S PO (S Mv (G0 Fv ?_));refine G1 47 rfl Ld ?_;refine gC rfl rfl (fun hC=>ungdA (k:=48) rfl (lenM' (f:=Z6.c) (s:=a0.FMembers) (TK rfl) rfl rfl rfl)) rfl ?_;refine G0 Fv ?_;refine G1 50 rfl Ld ?_;refine gC rfl rfl (fun hC=>ungdA (k:=51) rfl (lenM' (f:=Z6.c) (s:=a1.FMembers) (TK rfl) rfl rfl rfl)) rfl ?_
 refine G2 49 52 rfl rfl BI ?_;refine S PO (nil ?_);refine cE hE (fun hc6 hE=>?_) (fun hc6 hE=>?_)
 ·refine seqR (S As (nil ?_));exact rt hE
 refine sk hK2 ?_;clear hK2 K2;refine seqJH (TA 2 (TA 3 kN)) (fun(z:Unit)=>[]) (fun z=>H) (fun z=>Z71_j8 a0 a1 =some r) ?_ ?_
 ·intro K8 hK8;refine seqR (S As (nil ?_));refine block ?_;refine loopH (TA 2 (TA 3 kN)) (fun(z:Nat×Nat)=>[(5,.a (.d (.int .i64 ((z.2:Nat):Int))))]) (fun z=>H) (fun z=>z.1) (fun z=>Z71_l29 a0 a1 z.1 z.2=some r) ((a0.FFields.l.length+1),0) hE wA ?_;rintro ⟨n29,s5_30⟩ hE K29 hK29;try dsimp only at hE
  cases n29 with
  | zero=>cases hE
  | succ n29 =>
    rw [Z71_l29] at hE;refine seqK fun K31 hK31=>?_;refine seqR (S Mv (S Fv (S Ld ?_)));refine sLen (f:=Z4.c) (s:=a0.FFields) (TK rfl) rfl rfl rfl rfl fun hL33=>?_;refine S BI (nil ?_);refine cE hE (fun hc34 hE=>?_) (fun hc34 hE=>?_)
    ·try dsimp only at hc34
     have hf34:=oD hc34;refine sk hK31 ?_;clear hK31 K31;refine seqK fun K35 hK35=>?_;refine block ?_;refine AWp.seqD (Sd Fv (Sd Ld (Sd Mv ?_)));obtain⟨x37,gx37,hE⟩:=bO hE;refine Sd (ix Z4.c s5_30 gx37) (Sd Ld (Sd Fv (Sd Ld (Sd Mv ?_))));obtain⟨x38,gx38,hE⟩:=bO hE;refine Sd (ix Z4.c s5_30 gx38) (Sd Ld ?_);refine DOps.sB (TK rfl) rfl rfl ?_ (by repeat (first|exact Snoc.nil|apply Snoc.cons))
     refine DOps.sB (TK rfl) rfl rfl ?_ (by repeat (first|exact Snoc.nil|apply Snoc.cons));refine DOps.sLn (storeLFA (TK rfl) rfl rfl rfl rfl rfl) ?_;refine DOps.sLn (storeLFA (TK rfl) rfl rfl rfl rfl rfl) ?_;refine DOps.nil (by decide +kernel) ?_;refine freezeA 7 _ rfl (KA 2 (KA 3 (KA 5 (KA 6 Keeps.nil)))) ?_;refine freezeA 6 _ rfl (KA 2 (KA 3 (KA 5 (KA 7 Keeps.nil)))) ?_;refine seqR (S Fv (S Ld (S Fv (S Ld (S BS (S Mv (G0 Fv ?_)))))))
     refine G1 78 rfl Ld ?_;refine G0 Fv ?_;refine G1 80 rfl Ld ?_;obtain⟨x40,gx40,hE⟩:=gO hE;refine Gc2 79 81 rfl rfl rfl rfl rfl rfl (fun hC=>Z56_walk (gx40 hC)) ?_;refine G1 82 rfl NB ?_;refine S PO (S Mv (G0 Fv ?_));refine G1 86 rfl Ld ?_;refine G0 Fv ?_;refine G1 88 rfl Ld ?_;obtain⟨x41,gx41,hE⟩:=gO hE;refine Gc2 87 89 rfl rfl rfl rfl rfl rfl (fun hC=>Z72_walk (gx41 hC)) ?_;refine G1 90 rfl NB ?_
     refine S PO (S Mv (G0 Fv ?_));refine G1 94 rfl Ld ?_;refine G0 Fv ?_;refine G1 96 rfl Ld ?_;obtain⟨x42,gx42,hE⟩:=gO hE;refine Gc2 95 97 rfl rfl rfl rfl rfl rfl (fun hC=>Z80_walk (gx42 hC)) ?_;refine G1 98 rfl NB ?_;refine S PO (nil ?_);refine cE hE (fun hc43 hE=>?_) (fun hc43 hE=>?_)
     ·refine seqR (S As (nil ?_));exact rt hE
     refine sk hK35 ?_;clear hK35 K35;refine region ?_;refine S Mv ?_;refine SI ?_;refine S As (nil ?_);exact hK29 _ (n29,(s5_30+1)) wA hE (nS _)
    refine AWp.exit ?_;exact hK8 _ () wA hE
 rintro _ hE;try dsimp only at hE
 unfold Z71_j8 at hE;refine seqJH (TA 2 (TA 3 kN)) (fun(z:Unit)=>[]) (fun z=>H) (fun z=>Z71_j9 a0 a1 =some r) ?_ ?_
 ·intro K9 hK9;refine seqR (S As (nil ?_));refine block ?_;refine loopH (TA 2 (TA 3 kN)) (fun(z:Nat×Nat)=>[(8,.a (.d (.int .i64 ((z.2:Nat):Int))))]) (fun z=>H) (fun z=>z.1) (fun z=>Z71_l13 a0 a1 z.1 z.2=some r) ((a0.FMembers.l.length+1),0) hE wA ?_;rintro ⟨n13,s8_14⟩ hE K13 hK13;try dsimp only at hE
  cases n13 with
  | zero=>cases hE
  | succ n13 =>
    rw [Z71_l13] at hE;refine seqK fun K15 hK15=>?_;refine seqR (S Mv (S Fv (S Ld ?_)));refine sLen (f:=Z6.c) (s:=a0.FMembers) (TK rfl) rfl rfl rfl rfl fun hL17=>?_;refine S BI (nil ?_);refine cE hE (fun hc18 hE=>?_) (fun hc18 hE=>?_)
    ·try dsimp only at hc18
     have hf18:=oD hc18;refine sk hK15 ?_;clear hK15 K15;refine seqK fun K19 hK19=>?_;refine block ?_;refine AWp.seqD (Sd Fv (Sd Ld (Sd Mv ?_)));obtain⟨x21,gx21,hE⟩:=bO hE;refine Sd (ix Z6.c s8_14 gx21) (Sd Fv (Sd Ld (Sd Fv (Sd Ld (Sd Mv ?_)))));obtain⟨x22,gx22,hE⟩:=bO hE;refine Sd (ix Z6.c s8_14 gx22) (Sd Fv (Sd Ld (Sd BS (Sd Mv (G0d Fv ?_)))));refine G1d 122 rfl Ld ?_;refine G0d Mv ?_
     obtain⟨x23,gx23,hE⟩:=gO hE;refine DOps.gC rfl rfl (fun hC=>ungdA (k:=123) rfl (ungdA (k:=124) rfl (idxMn (f:=Z6.c) (n:=s8_14) (TK rfl) rfl (TK rfl) rfl rfl rfl (gx23 hC)))) rfl ?_;refine G1d 125 rfl Fv ?_;refine G1d 126 rfl Ld ?_;refine G0d Fv ?_;refine G1d 128 rfl Ld ?_;refine G0d Mv ?_;obtain⟨x24,gx24,hE⟩:=gO hE;refine DOps.gC rfl rfl (fun hC=>ungdA (k:=129) rfl (ungdA (k:=130) rfl (idxMn (f:=Z6.c) (n:=s8_14) (TK rfl) rfl (TK rfl) rfl rfl rfl (gx24 hC)))) rfl ?_
     refine G1d 131 rfl Fv ?_;refine G1d 132 rfl Ld ?_;obtain⟨x25,gx25,hE⟩:=gO hE;refine Gc2d 127 133 rfl rfl rfl rfl rfl rfl (fun hC=>Z72_walk (gx25 hC)) ?_;refine G1d 134 rfl NB ?_;refine Sd PO ?_;refine DOps.nil (by decide +kernel) ?_;refine cE hE (fun hc26 hE=>?_) (fun hc26 hE=>?_)
     ·refine seqR (S As (nil ?_));exact rt hE
     refine sk hK19 ?_;clear hK19 K19;refine region ?_;refine S Mv ?_;refine SI ?_;refine S As (nil ?_);exact hK13 _ (n13,(s8_14+1)) wA hE (nS _)
    refine AWp.exit ?_;exact hK9 _ () wA hE
 rintro _ hE;try dsimp only at hE
 unfold Z71_j9 at hE;refine seqR (S Fv (S Ld (S Fv (S Ld ?_))));obtain⟨x11,gx11,hE⟩:=bO hE;refine Sc rfl rfl (Z80_walk gx11) ?_;refine S As (nil ?_);exact rt hE
def Z70_j8  :Option Bool:=some true
def Z70_l11 (a0:TDoc) (a1:TDoc) :Nat->Nat->Option Bool
 | 0,_=>none
 | n11+1,s5_12=>bif (decide (((s5_12:Nat):Int)<((a0.FDefs.l.length:Nat):Int))) then((a0.FDefs.l[s5_12]?).bind fun x19=>(a1.FDefs.l[s5_12]?).bind fun x20=>(Z71 x19 x20).bind fun x21=>bif (!x21) then(some false) else((Z70_l11 a0 a1 n11) (s5_12+1))) else(Z70_j8   )
def Z70 (a0:TDoc) (a1:TDoc):Option Bool:=bif (!decide (((a0.FDefs.l.length:Nat):Int)=((a1.FDefs.l.length:Nat):Int))) then(some false) else(Z70_l11 a0 a1 (a0.FDefs.l.length+1) 0)
theorem Z70_walk {a0 a1:TDoc}{r:Bool}(hE:Z70 a0 a1=some r) (H:Heap) :AC Tryz.prog 6 [.agg (TDoc.c a0),.agg (TDoc.c a1)] H fun v h'=>v=.a (.d (.bool r))/\h'=H:=by
 unfold Z70 at hE;refine AC.oW 32 [.tmp 4] Tryz.call6 Tryz.func6 ?_;refine seqR (S BX (S BX (S As (nil ?_))));refine seqK fun K2 hK2=>?_;refine seqR (S Fv (S Ld ?_));refine sLen (f:=TDef.c) (s:=a0.FDefs) (TK rfl) rfl rfl rfl rfl fun hL4=>?_;refine S Fv (S Ld ?_);refine sLen (f:=TDef.c) (s:=a1.FDefs) (TK rfl) rfl rfl rfl rfl fun hL5=>?_;refine S BI (nil ?_);refine cE hE (fun hc6 hE=>?_) (fun hc6 hE=>?_)
 ·refine seqR (S As (nil ?_));exact rt hE
 refine sk hK2 ?_;clear hK2 K2;refine seqJH kN (fun(z:Unit)=>[]) (fun z=>H) (fun z=>Z70_j8 =some r) ?_ ?_
 ·intro K8 hK8;refine seqR (S As (nil ?_));refine block ?_;refine loopH (TA 2 (TA 3 kN)) (fun(z:Nat×Nat)=>[(5,.a (.d (.int .i64 ((z.2:Nat):Int))))]) (fun z=>H) (fun z=>z.1) (fun z=>Z70_l11 a0 a1 z.1 z.2=some r) ((a0.FDefs.l.length+1),0) hE wA ?_;rintro ⟨n11,s5_12⟩ hE K11 hK11;try dsimp only at hE
  cases n11 with
  | zero=>cases hE
  | succ n11 =>
    rw [Z70_l11] at hE;refine seqK fun K13 hK13=>?_;refine seqR (S Mv (S Fv (S Ld ?_)));refine sLen (f:=TDef.c) (s:=a0.FDefs) (TK rfl) rfl rfl rfl rfl fun hL15=>?_;refine S BI (nil ?_);refine cE hE (fun hc16 hE=>?_) (fun hc16 hE=>?_)
    ·try dsimp only at hc16
     have hf16:=oD hc16;refine sk hK13 ?_;clear hK13 K13;refine seqK fun K17 hK17=>?_;refine block ?_;refine AWp.seqD (Sd Fv (Sd Ld (Sd Mv ?_)));obtain⟨x19,gx19,hE⟩:=bO hE;refine Sd (ix TDef.c s5_12 gx19) (Sd Ld (Sd Fv (Sd Ld (Sd Mv ?_))));obtain⟨x20,gx20,hE⟩:=bO hE;refine Sd (ix TDef.c s5_12 gx20) (Sd Ld ?_);obtain⟨x21,gx21,hE⟩:=bO hE;refine Scd rfl rfl (Z71_walk gx21) ?_;refine Sd NB ?_
     refine DOps.nil (by decide +kernel) ?_;refine cE hE (fun hc22 hE=>?_) (fun hc22 hE=>?_)
     ·refine seqR (S As (nil ?_));exact rt hE
     refine sk hK17 ?_;clear hK17 K17;refine region ?_;refine S Mv ?_;refine SI ?_;refine S As (nil ?_);exact hK11 _ (n11,(s5_12+1)) wA hE (nS _)
    refine AWp.exit ?_;exact hK8 _ () wA hE
 rintro _ hE;try dsimp only at hE
 unfold Z70_j8 at hE;refine seqR (S As (nil ?_));exact rt hE
def Z78_j3  (s3_4:(Sl Int)):Option (Sl Int):=some s3_4
def Z78_j14 (s4_9:Nat) (k_next_7:(Sl Int)->Nat->Option (Sl Int)) (s3_15:(Sl Int)):Option (Sl Int):=k_next_7 s3_15 (s4_9+1)
def Z78_j18 (s3_8:(Sl Int)) (s4_9:Nat) (k_next_7:(Sl Int)->Nat->Option (Sl Int)) (s5_19:(Sl Int)) (s6_20:Int):Option (Sl Int):=(appC 8 s5_19 (⟨false,[((s4_9:Nat):Int)]⟩:Sl Int)).bind fun x22=>(partC s3_8 (some s6_20) none).bind fun x24=>(appC 8 x22 x24).bind fun x25=>Z78_j14 s4_9 k_next_7 x25
def Z78_l26 (a0:(Sl Bs)) (s3_8:(Sl Int)) (s4_9:Nat) (k_next_7:(Sl Int)->Nat->Option (Sl Int)):Nat->(Sl Int)->Int->Option (Sl Int)
 | 0,_,_=>none
 | n26+1,s5_27,s6_28=>guardO ((decide (s6_28<((s3_8.l.length:Nat):Int)))) (idxC s3_8.l s6_28) (0:Int) fun x31=>guardO ((decide (s6_28<((s3_8.l.length:Nat):Int)))) (idxC a0.l x31) ([]:Bs) fun x32=>guardO ((decide (s6_28<((s3_8.l.length:Nat):Int)))) (a0.l[s4_9]?) ([]:Bs) fun x33=>bif ((decide (s6_28<((s3_8.l.length:Nat):Int)))&&((Op.bytesLess x32 x33||x32==x33))) then((idxC s3_8.l s6_28).bind fun x36=>(appC 8 s5_27 (⟨false,[x36]⟩:Sl Int)).bind fun x37=>(addC s6_28 (1:Int)).bind fun x38=>(Z78_l26 a0 s3_8 s4_9 k_next_7 n26) x37 x38) else(Z78_j18 s3_8 s4_9 k_next_7 s5_27 s6_28)
def Z78_l7 (a0:(Sl Bs)) :Nat->(Sl Int)->Nat->Option (Sl Int)
 | 0,_,_=>none
 | n7+1,s3_8,s4_9=>bif (decide (((s4_9:Nat):Int)<((a0.l.length:Nat):Int))) then(Z78_l26 a0 s3_8 s4_9 ((Z78_l7 a0 n7)) F0 (Sl.nil:Sl Int) (0:Int)) else(Z78_j3   s3_8)
def Z78 (a0:(Sl Bs)):Option (Sl Int):=Z78_l7 a0 (a0.l.length+1) (Sl.nil:Sl Int) 0
theorem Z78_walk {a0:Sl Bs}{w0:Option Nat}{r:Sl Int}(hE:Z78 a0=some r) (H:Heap) :AC Tryz.prog 18 [.d (Sl.d 1 strE w0 a0)] H fun v h'=>v=.a (.d (Sl.d 1 (intE .i64) none r))/\h'=H:=by
 unfold Z78 at hE;refine AC.oW 51 [.tmp 2] Tryz.call18 Tryz.func18 ?_;refine seqR ?_;refine s0 (assignNil (k':=1) rfl) rfl ?_;refine nil ?_;refine seqR ?_;refine s0 (assignNil (k':=1) rfl) rfl ?_;refine nil ?_;refine seqJH kN (fun(z:(Sl Int))=>[(3,.a (.d (Sl.d 1 (intE .i64) none z)))]) (fun z=>H) (fun z=>Z78_j3 z=some r) ?_ ?_
 ·intro K3 hK3;refine seqR (S As (nil ?_));refine block ?_;refine loopH (TA 0 kN) (fun(z:Nat×(Sl Int)×Nat)=>[(3,.a (.d (Sl.d 1 (intE .i64) none z.2.1))),(4,.a (.d (.int .i64 ((z.2.2:Nat):Int))))]) (fun z=>H) (fun z=>z.1) (fun z=>Z78_l7 a0 z.1 z.2.1 z.2.2=some r) ((a0.l.length+1),(Sl.nil:Sl Int),0) hE wA ?_;rintro ⟨n7,s3_8,s4_9⟩ hE K7 hK7;try dsimp only at hE
  cases n7 with
  | zero=>cases hE
  | succ n7 =>
    rw [Z78_l7] at hE;refine seqK fun K10 hK10=>?_;refine seqR (S Mv (S Mv ?_));refine sLen (f:=strE) (s:=a0) (TK rfl) rfl rfl rfl rfl fun hL12=>?_;refine S BI (nil ?_);refine cE hE (fun hc13 hE=>?_) (fun hc13 hE=>?_)
    ·try dsimp only at hc13
     have hf13:=oD hc13;refine sk hK10 ?_;clear hK10 K10;refine seqJH (TA 0 (TA 4 kN)) (fun(z:(Sl Int))=>[(3,.a (.d (Sl.d 1 (intE .i64) none z)))]) (fun z=>H) (fun z=>Z78_j14 s4_9 ((Z78_l7 a0 n7)) z=some r) ?_ ?_
     ·intro K14 hK14;refine block ?_;refine AWp.tok 1 fun tk1 htk1=>?_;refine seqR (S As (nil ?_));refine AWp.nilTok 5 1 tk1 rfl hpG ?_;refine seqR (S As (nil ?_));refine seqJH (TA 0 (TA 3 (TA 4 kN))) (fun(z:(Sl Int)×Int)=>[(5,.a (.d (Sl.d 1 (intE .i64) (some tk1) z.1))),(6,.a (.d (.int .i64 z.2)))]) (fun z=>(H.set tk1 (some (.tok 1 z.1.l.length)))) (fun z=>Z78_j18 s3_8 s4_9 ((Z78_l7 a0 n7)) z.1 z.2=some r) ?_ ?_
      ·intro K18 hK18;refine block ?_;refine loopH (TA 0 (TA 3 (TA 4 kN))) (fun(z:Nat×(Sl Int)×Int)=>[(5,.a (.d (Sl.d 1 (intE .i64) (some tk1) z.2.1))),(6,.a (.d (.int .i64 z.2.2)))]) (fun z=>(H.set tk1 (some (.tok 1 z.2.1.l.length)))) (fun z=>z.1) (fun z=>Z78_l26 a0 s3_8 s4_9 ((Z78_l7 a0 n7)) z.1 z.2.1 z.2.2=some r) (F0,(Sl.nil:Sl Int),(0:Int)) hE wA ?_;rintro ⟨n26,s5_27,s6_28⟩ hE K26 hK26
       try dsimp only at hE
       cases n26 with
       | zero=>cases hE
       | succ n26 =>
         rw [Z78_l26] at hE;refine seqK fun K29 hK29=>?_;refine AWp.seqD (Sd Mv (Sd Mv ?_));refine DOps.s0 (lenM' (f:=(intE .i64)) (s:=s3_8) (TK rfl) rfl rfl rfl) rfl ?_;refine Sd BI (Sd Mv (G0d Mv (G0d Mv (G0d Mv ?_))));obtain⟨x31,gx31,hE⟩:=gO hE;refine DOps.gC rfl rfl (fun hC=>ungdA (k:=19) rfl (ungdA (k:=20) rfl (idxM (f:=(intE .i64)) (TK rfl) rfl (TK rfl) rfl rfl rfl (gx31 hC)))) rfl ?_;refine G1d 21 rfl Ld ?_
         obtain⟨x32,gx32,hE⟩:=gO hE;refine DOps.gC rfl rfl (fun hC=>ungdA (k:=18) rfl (ungdA (k:=22) rfl (idxM (f:=strE) (TK rfl) rfl (TK rfl) rfl rfl rfl (gx32 hC)))) rfl ?_;refine G1d 23 rfl Ld ?_;refine G0d Mv (G0d Mv ?_);obtain⟨x33,gx33,hE⟩:=gO hE;refine DOps.gC rfl rfl (fun hC=>ungdA (k:=25) rfl (ungdA (k:=26) rfl (idxMn (f:=strE) (n:=s4_9) (TK rfl) rfl (TK rfl) rfl rfl rfl (gx33 hC)))) rfl ?_
         refine G1d 27 rfl Ld ?_;refine G2d 24 28 rfl rfl BS ?_;refine Sd PA ?_;refine DOps.nil (by decide +kernel) ?_;refine cE hE (fun hc34 hE=>?_) (fun hc34 hE=>?_)
         ·refine sk hK29 ?_;clear hK29 K29;refine block ?_;refine seqR (S Mv (S Mv (S Mv ?_)));obtain⟨x36,gx36,hE⟩:=bO hE;refine s0 (idxM (f:=(intE .i64)) (TK rfl) rfl (TK rfl) rfl rfl rfl gx36) rfl ?_;refine S Ld (S BV ?_);obtain⟨x37,gx37,hE⟩:=bO hE;refine SH (am (intE .i64) (TK rfl) rfl (TK rfl) (TK rfl) gx37) ?_;refine hq (H.set tk1 (some (.tok 1 x37.l.length))) ?_;refine S As (nil ?_);refine region ?_
          refine S Mv ?_;obtain⟨x38,gx38,hE⟩:=bO hE;refine s0 (addM rfl rfl gx38) rfl ?_;refine S As (nil ?_);exact hK26 _ (n26,x37,x38) wA hE (nS _)
         refine AWp.exit ?_;exact hK18 _ (s5_27,s6_28) wA hE
      rintro ⟨s5_19,s6_20⟩ hE;try dsimp only at hE
      unfold Z78_j18 at hE;refine seqR (S Mv (S Mv (S BV ?_)));obtain⟨x22,gx22,hE⟩:=bO hE;refine SH (am (intE .i64) (TK rfl) rfl (TK rfl) (TK rfl) gx22) ?_;refine hq (H.set tk1 (some (.tok 1 x22.l.length))) ?_;refine S As (nil ?_);refine seqR (S Mv (S Mv (S Mv ?_)));obtain⟨x24,gx24,hE⟩:=bO hE;refine s0 (partM (f:=(intE .i64)) (l:=(some s6_20)) (r:=none) (TK rfl) rfl (TK rfl) rfl rfl rfl trivial gx24) rfl ?_
      obtain⟨x25,gx25,hE⟩:=bO hE;refine SH (am (intE .i64) (TK rfl) rfl (TK rfl) (TK rfl) gx25) ?_;refine hq (H.set tk1 (some (.tok 1 x25.l.length))) ?_;refine S As (nil ?_);refine region ?_;refine S Mv (S As ?_);refine AOps.dropTok 3 rfl ?_;refine nil ?_;exact hK14 _ x25 (Weak.toFA (by(intro id_ o_ he_); (have e_tk1:id_≠tk1:=fun e_=>by rw [e_] at he_; simp [Heap.set,htk1] at he_); (rw [<- he_]); (simp only [Heap.set,if_neg e_tk1]); (first|done|rfl))) hE
     rintro s3_15 hE;try dsimp only at hE
     unfold Z78_j14 at hE;refine region ?_;refine S Mv ?_;refine SI ?_;refine S As (nil ?_);exact hK7 _ (n7,s3_15,(s4_9+1)) wA hE (nS _)
    refine AWp.exit ?_;exact hK3 _ s3_8 wA hE
 rintro s3_4 hE;try dsimp only at hE
 unfold Z78_j3 at hE;refine seqR (S Mv (S As (nil ?_)));exact rt hE
def Z43_j3  (s3_4:(Sl Z7)):Option (Sl Z7):=some s3_4
def Z43_l7 (a0:(Sl Z7)) (k_rec_48:Z7->Option Z7):Nat->(Sl Z7)->Nat->Option (Sl Z7)
 | 0,_,_=>none
 | n7+1,s3_8,s4_9=>bif (decide (((s4_9:Nat):Int)<((a0.l.length:Nat):Int))) then((a0.l[s4_9]?).bind fun x15=>(k_rec_48 x15).bind fun x16=>(appC 80 s3_8 (⟨false,[x16]⟩:Sl Z7)).bind fun x17=>(Z43_l7 a0 k_rec_48 n7) x17 (s4_9+1)) else(Z43_j3   s3_8)
mutual
def r02_Copy_n:Nat->Z7->Option Z7
 | 0,_=>none
 | n+1,a0=>((Z43_n n) a0.FItems).bind fun x3=>(appC 16 (⟨false,[]⟩:Sl Bs) a0.FKeys).bind fun x4=>some (Z7.mk a0.FKind a0.FInt a0.FText x3.nl x3.l x4)
def Z43_n:Nat->(Sl Z7)->Option (Sl Z7)
 | 0,_=>none
 | n+1,a0=>Z43_l7 a0 (r02_Copy_n n) (a0.l.length+1) (Sl.nil:Sl Z7) 0
end
theorem r02_Copy_step (n:Nat) (ih_48:∀{a0 r:Z7},r02_Copy_n n a0=some r->∀(H:Heap),AC Tryz.prog 48 [.agg (Z7.c a0)] H fun v h'=>v=.a (.agg (Z7.c r))/\h'=H) (ih_82:∀{a0:Sl Z7}{w0:Option Nat}{r:Sl Z7},Z43_n n a0=some r->∀(H:Heap),AC Tryz.prog 82 [.d (Sl.d 5 Z7.c w0 a0)] H fun v h'=>v=.a (.d (Sl.d 5 Z7.c none r))/\h'=H):∀{a0 r:Z7},r02_Copy_n (n+1) a0=some r->∀(H:Heap),AC Tryz.prog 48 [.agg (Z7.c a0)] H fun v h'=>v=.a (.agg (Z7.c r))/\h'=H:=by
 intro a0   r hE H ;rw [r02_Copy_n] at hE;refine AC.oW 17 [.cell 2 80] Tryz.call48 Tryz.func48 ?_;refine seqR (S BX ?_);refine Sl ?_;refine nil ?_;refine AWp.seqD (Sd Fv (Sd Ld (Sd Fv (Sd Ld (Sd Fv (Sd Ld (Sd Fv ?_)))))));refine DOps.s0 (loadV (TK rfl) rfl rfl (congrArg (fun x=>some (A.d x)) (Z7.FItemsD_eq _))) rfl ?_;obtain⟨x3,gx3,hE⟩:=bO hE;refine Scd rfl rfl (ih_82 gx3) ?_;refine DOps.s0 (buildSliceF (TK rfl) rfl (TK rfl) rfl rfl rfl rfl rfl rfl) rfl ?_
 refine Sd Fv (Sd Ld ?_);obtain⟨x4,gx4,hE⟩:=bO hE;refine DOps.s0 (appFM (f:=strE) (TK rfl) rfl (TK rfl) (TK rfl) ⟨_,rfl⟩ rfl rfl (by decide) rfl rfl rfl (by intro q h; cases h<;>decide) rfl rfl gx4) rfl ?_;refine Sd BU ?_;refine DOps.sLn (storeLFA (TK rfl) rfl rfl rfl rfl rfl) ?_;refine DOps.nil (by decide +kernel) ?_;refine AWp.relocal 0 (Z7.c (Z7.mk a0.FKind a0.FInt a0.FText x3.nl x3.l x4)) rfl (fun j w cs hh hx=>by rw [Z7.cu_eq]; exact hx) ?_
 exact rt hE
theorem Z43_step (n:Nat) (ih_48:∀{a0 r:Z7},r02_Copy_n n a0=some r->∀(H:Heap),AC Tryz.prog 48 [.agg (Z7.c a0)] H fun v h'=>v=.a (.agg (Z7.c r))/\h'=H) (ih_82:∀{a0:Sl Z7}{w0:Option Nat}{r:Sl Z7},Z43_n n a0=some r->∀(H:Heap),AC Tryz.prog 82 [.d (Sl.d 5 Z7.c w0 a0)] H fun v h'=>v=.a (.d (Sl.d 5 Z7.c none r))/\h'=H):∀{a0:Sl Z7}{w0:Option Nat}{r:Sl Z7},Z43_n (n+1) a0=some r->∀(H:Heap),AC Tryz.prog 82 [.d (Sl.d 5 Z7.c w0 a0)] H fun v h'=>v=.a (.d (Sl.d 5 Z7.c none r))/\h'=H:=by
 intro a0 w0  r hE H ;rw [Z43_n] at hE;refine AC.oW 20 [.tmp 2] Tryz.call82 Tryz.func82 ?_;refine AWp.tok 5 fun tk1 htk1=>?_;refine seqR ?_;refine s0 (assignNil (k':=5) rfl) rfl ?_;refine nil ?_;refine seqR (S As (nil ?_));refine AWp.nilTok 3 5 tk1 rfl hpG ?_;refine seqJH kN (fun(z:(Sl Z7))=>[(3,.a (.d (Sl.d 5 Z7.c (some tk1) z)))]) (fun z=>(H.set tk1 (some (.tok 5 z.l.length)))) (fun z=>Z43_j3 z=some r) ?_ ?_
 ·intro K3 hK3;refine seqR (S As (nil ?_));refine block ?_;refine loopH (TA 0 kN) (fun(z:Nat×(Sl Z7)×Nat)=>[(3,.a (.d (Sl.d 5 Z7.c (some tk1) z.2.1))),(4,.a (.d (.int .i64 ((z.2.2:Nat):Int))))]) (fun z=>(H.set tk1 (some (.tok 5 z.2.1.l.length)))) (fun z=>z.1) (fun z=>Z43_l7 a0 (r02_Copy_n n) z.1 z.2.1 z.2.2=some r) ((a0.l.length+1),(Sl.nil:Sl Z7),0) hE wA ?_;rintro ⟨n7,s3_8,s4_9⟩ hE K7 hK7
  try dsimp only at hE
  cases n7 with
  | zero=>cases hE
  | succ n7 =>
    rw [Z43_l7] at hE;refine seqK fun K10 hK10=>?_;refine seqR (S Mv (S Mv ?_));refine sLen (f:=Z7.c) (s:=a0) (TK rfl) rfl rfl rfl rfl fun hL12=>?_;refine S BI (nil ?_);refine cE hE (fun hc13 hE=>?_) (fun hc13 hE=>?_)
    ·try dsimp only at hc13
     have hf13:=oD hc13;refine sk hK10 ?_;clear hK10 K10;refine seqK fun K14 hK14=>?_;refine block ?_;refine region ?_;refine S Mv (S Mv (S Mv ?_));obtain⟨x15,gx15,hE⟩:=bO hE;refine S (ix Z7.c s4_9 gx15) (S Ld ?_);obtain⟨x16,gx16,hE⟩:=bO hE;refine Sc rfl rfl (ih_48 gx16) ?_;refine S BV ?_;obtain⟨x17,gx17,hE⟩:=bO hE;refine SH (am Z7.c (TK rfl) rfl (TK rfl) (TK rfl) gx17) ?_;refine hq (H.set tk1 (some (.tok 5 x17.l.length))) ?_
     refine S As (nil ?_);refine hK14 _ ?_;clear hK14 K14;refine region ?_;refine S Mv ?_;refine SI ?_;refine S As (nil ?_);exact hK7 _ (n7,x17,(s4_9+1)) wA hE (nS _)
    refine AWp.exit ?_;exact hK3 _ s3_8 wA hE
 rintro s3_4 hE;try dsimp only at hE
 unfold Z43_j3 at hE;refine seqR (S Mv (S As (nil ?_)));refine AWp.dropTok 2 rfl ?_;refine AWp.ret ?_;repeat (first|refine xBlock_ret ?_|refine xThen_ret ?_)
 obtain rfl:=oJ hE;refine retQ.retF H rfl ⟨rfl,rfl⟩ ?_
 first|exact Heap.sub_set htk1|(simp only [Heap.set_set]; exact Heap.sub_set htk1)
theorem r02_Copy_all:∀(n:Nat),(∀{a0 r:Z7},r02_Copy_n n a0=some r->∀(H:Heap),AC Tryz.prog 48 [.agg (Z7.c a0)] H fun v h'=>v=.a (.agg (Z7.c r))/\h'=H)/\(∀{a0:Sl Z7}{w0:Option Nat}{r:Sl Z7},Z43_n n a0=some r->∀(H:Heap),AC Tryz.prog 82 [.d (Sl.d 5 Z7.c w0 a0)] H fun v h'=>v=.a (.d (Sl.d 5 Z7.c none r))/\h'=H)
 | 0=>⟨fun hE=>by first|cases hE|(rw [r02_Copy_n] at hE; cases hE),fun hE=>by first|cases hE|(rw [Z43_n] at hE; cases hE)⟩
 | n+1=>⟨r02_Copy_step n (r02_Copy_all n).1 (r02_Copy_all n).2,Z43_step n (r02_Copy_all n).1 (r02_Copy_all n).2⟩
def r02_Copy (a0:Z7):Option Z7:=r02_Copy_n F0 a0
theorem r02_Copy_walk {a0 r:Z7}(hE:r02_Copy a0=some r) (H:Heap) :AC Tryz.prog 48 [.agg (Z7.c a0)] H fun v h'=>v=.a (.agg (Z7.c r))/\h'=H:=(r02_Copy_all F0).1 hE H 
end Go.Proofs

namespace Go.Proofs
open Go Go.Ab
open AOps Cert AWp Keeps KeepsT
variable {lou:Lou}
def Z74_j3  (s3_4:(Sl TDir)):Option (Sl TDir):=some s3_4
def Z74_j14 (s4_9:Nat) (k_next_7:(Sl TDir)->Nat->Option (Sl TDir)) (s3_15:(Sl TDir)):Option (Sl TDir):=k_next_7 s3_15 (s4_9+1)
def Z74_j19 (s3_8:(Sl TDir)) (s4_9:Nat) (k_next_7:(Sl TDir)->Nat->Option (Sl TDir)) (y20_l0:TDir):Option (Sl TDir):=(appC 40 s3_8 (⟨false,[y20_l0]⟩:Sl TDir)).bind fun x21=>Z74_j14 s4_9 k_next_7 x21
def Z74_l23 (a0:(Sl TDir)) (s3_8:(Sl TDir)) (s4_9:Nat) (k_next_7:(Sl TDir)->Nat->Option (Sl TDir)):Nat->Nat->TDir->Option (Sl TDir)
 | 0,_,_=>none
 | n23+1,s6_24,y25_l0=>(a0.l[s4_9]?).bind fun x28=>bif (decide (((s6_24:Nat):Int)<((x28.FArgs.l.length:Nat):Int))) then((a0.l[s4_9]?).bind fun x32=>(x32.FArgs.l[s6_24]?).bind fun x33=>(a0.l[s4_9]?).bind fun x34=>(x34.FArgs.l[s6_24]?).bind fun x35=>(r02_Copy x35.FValue).bind fun x36=>(appC 96 y25_l0.FArgs (⟨false,[(TArg.mk x33.FName x36)]⟩:Sl TArg)).bind fun x37=>(Z74_l23 a0 s3_8 s4_9 k_next_7 n23) (s6_24+1) (TDir.mk y25_l0.FName x37)) else(Z74_j19 s3_8 s4_9 k_next_7 y25_l0)
def Z74_l7 (a0:(Sl TDir)) :Nat->(Sl TDir)->Nat->Option (Sl TDir)
 | 0,_,_=>none
 | n7+1,s3_8,s4_9=>bif (decide (((s4_9:Nat):Int)<((a0.l.length:Nat):Int))) then((a0.l[s4_9]?).bind fun x17=>Z74_l23 a0 s3_8 s4_9 ((Z74_l7 a0 n7)) (Option.elim (a0.l[s4_9]?) 1 (fun x28=>x28.FArgs.l.length+1)) 0 (TDir.mk x17.FName (Sl.nil:Sl TArg))) else(Z74_j3   s3_8)
def Z74 (a0:(Sl TDir)):Option (Sl TDir):=Z74_l7 a0 (a0.l.length+1) (Sl.nil:Sl TDir) 0
theorem Z74_walk {a0:Sl TDir}{w0:Option Nat}{r:Sl TDir}(hE:Z74 a0=some r) (H:Heap) :AC Tryz.prog 19 [.d (Sl.d 2 TDir.c w0 a0)] H fun v h'=>v=.a (.d (Sl.d 2 TDir.c none r))/\h'=H:=by
 unfold Z74 at hE;refine AC.oW 59 [.tmp 2] Tryz.call19 Tryz.func19 ?_;refine AWp.tok 2 fun tk1 htk1=>?_;refine seqR ?_;refine s0 (assignNil (k':=2) rfl) rfl ?_;refine nil ?_;refine seqR (S As (nil ?_));refine AWp.nilTok 3 2 tk1 rfl hpG ?_;refine seqJH kN (fun(z:(Sl TDir))=>[(3,.a (.d (Sl.d 2 TDir.c (some tk1) z)))]) (fun z=>(H.set tk1 (some (.tok 2 z.l.length)))) (fun z=>Z74_j3 z=some r) ?_ ?_
 ·intro K3 hK3;refine seqR (S As (nil ?_));refine block ?_;refine loopH (TA 0 kN) (fun(z:Nat×(Sl TDir)×Nat)=>[(3,.a (.d (Sl.d 2 TDir.c (some tk1) z.2.1))),(4,.a (.d (.int .i64 ((z.2.2:Nat):Int))))]) (fun z=>(H.set tk1 (some (.tok 2 z.2.1.l.length)))) (fun z=>z.1) (fun z=>Z74_l7 a0 z.1 z.2.1 z.2.2=some r) ((a0.l.length+1),(Sl.nil:Sl TDir),0) hE wA ?_;rintro ⟨n7,s3_8,s4_9⟩ hE K7 hK7;try dsimp only at hE
  cases n7 with
  | zero=>cases hE
  | succ n7 =>
    rw [Z74_l7] at hE;refine seqK fun K10 hK10=>?_;refine seqR (S Mv (S Mv ?_));refine sLen (f:=TDir.c) (s:=a0) (TK rfl) rfl rfl rfl rfl fun hL12=>?_;refine S BI (nil ?_);refine cE hE (fun hc13 hE=>?_) (fun hc13 hE=>?_)
    ·try dsimp only at hc13
     have hf13:=oD hc13;refine sk hK10 ?_;clear hK10 K10;refine seqJH (TA 0 (TA 4 kN)) (fun(z:(Sl TDir))=>[(3,.a (.d (Sl.d 2 TDir.c (some tk1) z)))]) (fun z=>(H.set tk1 (some (.tok 2 z.l.length)))) (fun z=>Z74_j14 s4_9 ((Z74_l7 a0 n7)) z=some r) ?_ ?_
     ·intro K14 hK14;refine block ?_;refine seqR (S Mv (S Mv ?_));obtain⟨x17,gx17,hE⟩:=bO hE;refine S (ix TDir.c s4_9 gx17) (S Fv (S Ld (S BU ?_)));refine Sl ?_;refine AOps.tok 6 fun tk5_18 htk5_18=>?_;obtain⟨ne_tk5_18_tk1,htk5_18⟩:=Heap.set_fresh htk5_18;refine AOps.relocal 0 _ rfl (fun j w cs hh hx=>tok_cell 1 6 6 hh (t:=tk5_18) hpG hx rfl) ?_;refine Sf ?_;refine AOps.relocal 0 _ rfl (fun j w cs hh hx=>tok_cell 1 6 6 hh (t:=tk5_18) hpG hx rfl) ?_
      refine nil ?_;refine seqJ (TA 0 (TA 3 (TA 4 (TA 5 kN)))) (fun(z:TDir)=>[]) (fun z=>[(strE z.FName++[Sl.d 6 TArg.c (some tk5_18) z.FArgs])]) (fun z=>((H.set tk1 (some (.tok 2 s3_8.l.length))).set tk5_18 (some (.tok 6 z.FArgs.l.length)))) (fun z=>Z74_j19 s3_8 s4_9 ((Z74_l7 a0 n7)) z=some r) ?_ ?_
      ·intro K19 hK19;refine seqR (S As (nil ?_));refine block ?_;refine loopO (TA 0 (TA 3 (TA 4 (TA 5 kN)))) (fun(z:Nat×Nat×TDir)=>[(6,.a (.d (.int .i64 ((z.2.1:Nat):Int))))]) (fun z=>[(strE z.2.2.FName++[Sl.d 6 TArg.c (some tk5_18) z.2.2.FArgs])]) (fun z=>((H.set tk1 (some (.tok 2 s3_8.l.length))).set tk5_18 (some (.tok 6 z.2.2.FArgs.l.length)))) (fun z=>z.1) (fun z=>Z74_l23 a0 s3_8 s4_9 ((Z74_l7 a0 n7)) z.1 z.2.1 z.2.2=some r) ((Option.elim (a0.l[s4_9]?) 1 (fun x28=>x28.FArgs.l.length+1)),0,(TDir.mk x17.FName (Sl.nil:Sl TArg))) hE wA ?_
       rintro ⟨n23,s6_24,y25_l0⟩ hE K23 hK23;try dsimp only at hE
       cases n23 with
       | zero=>cases hE
       | succ n23 =>
         rw [Z74_l23] at hE;refine seqK fun K26 hK26=>?_;refine seqR (S Mv (S Mv (S Mv ?_)));obtain⟨x28,gx28,hE⟩:=bO hE;refine S (ix TDir.c s4_9 gx28) (S Fv (S Ld ?_));refine sLen (f:=TArg.c) (s:=x28.FArgs) (TK rfl) rfl rfl rfl rfl fun hL29=>?_;refine S BI (nil ?_);refine cE hE (fun hc30 hE=>?_) (fun hc30 hE=>?_)
         ·try dsimp only at hc30
          have hf30:=oD hc30;refine sk hK26 ?_;clear hK26 K26;refine seqK fun K31 hK31=>?_;refine block ?_;refine AWp.draw rfl ?_;refine Sd FL (Sd LL (Sd Mv (Sd Mv ?_)));obtain⟨x32,gx32,hE⟩:=bO hE;refine Sd (ix TDir.c s4_9 gx32) (Sd Fv (Sd Ld (Sd Mv ?_)));obtain⟨x33,gx33,hE⟩:=bO hE;refine Sd (ix TArg.c s6_24 gx33) (Sd Fv (Sd Ld (Sd Mv (Sd Mv ?_))));obtain⟨x34,gx34,hE⟩:=bO hE;refine Sd (ix TDir.c s4_9 gx34) (Sd Fv (Sd Ld (Sd Mv ?_)))
          obtain⟨x35,gx35,hE⟩:=bO hE;refine Sd (ix TArg.c s6_24 gx35) (Sd Fv (Sd Ld ?_));obtain⟨x36,gx36,hE⟩:=bO hE;refine Scd rfl rfl (r02_Copy_walk gx36) ?_;refine Sd BU (Sd BV ?_);obtain⟨x37,gx37,hE⟩:=bO hE;refine DOps.sH (appM (f:=TArg.c) (TK rfl) rfl (TK rfl) (TK rfl) ⟨_,rfl⟩ rfl rfl (by decide) rfl rfl rfl rfl hpG rfl gx37) rfl ?_;refine DOps.Dh ((H.set tk1 (some (.tok 2 s3_8.l.length))).set tk5_18 (some (.tok 6 x37.l.length))) ?_
          refine Sd FL ?_;refine DOps.sLn (storeL1 (TK rfl) rfl rfl rfl rfl (by repeat (first|exact SetAt.zero|apply SetAt.succ)) (by repeat (first|exact SetAt.zero|apply SetAt.succ))) ?_;refine DOps.nil (by decide +kernel) ?_;refine hK31 _ ?_;clear hK31 K31;refine region ?_;refine S Mv ?_;refine SI ?_;refine S As (nil ?_);exact hK23 _ (n23,(s6_24+1),(TDir.mk y25_l0.FName x37)) wA hE (nS _)
         refine AWp.exit ?_;exact hK19 _ y25_l0 wA hE
      rintro y20_l0 hE;try dsimp only at hE
      unfold Z74_j19 at hE;refine AWp.relocal 0 _ rfl (fun j w cs hh hx=>untok_cell 1 hx rfl) ?_;refine region ?_;refine S Mv (S LL (S BV ?_));obtain⟨x21,gx21,hE⟩:=bO hE;refine SH (am TDir.c (TK rfl) rfl (TK rfl) (TK rfl) gx21) ?_;refine hq ((H.set tk1 (some (.tok 2 x21.l.length))).set tk5_18 (some (.tok 6 y20_l0.FArgs.l.length))) ?_;refine S As (nil ?_);exact hK14 _ x21 (Weak.toFA (by(intro id_ o_ he_); (have e_tk5_18:id_≠tk5_18:=fun e_=>by rw [e_] at he_; simp [Heap.set,htk5_18,ne_tk5_18_tk1] at he_); (rw [<- he_]); (simp only [Heap.set,if_neg e_tk5_18]); (first|done|rfl))) hE
     rintro s3_15 hE;try dsimp only at hE
     unfold Z74_j14 at hE;refine region ?_;refine S Mv ?_;refine SI ?_;refine S As (nil ?_);exact hK7 _ (n7,s3_15,(s4_9+1)) wA hE (nS _)
    refine AWp.exit ?_;exact hK3 _ s3_8 wA hE
 rintro s3_4 hE;try dsimp only at hE
 unfold Z74_j3 at hE;refine seqR (S Mv (S As (nil ?_)));refine AWp.dropTok 2 rfl ?_;refine AWp.ret ?_;repeat (first|refine xBlock_ret ?_|refine xThen_ret ?_)
 obtain rfl:=oJ hE;refine retQ.retF H rfl ⟨rfl,rfl⟩ ?_
 first|exact Heap.sub_set htk1|(simp only [Heap.set_set]; exact Heap.sub_set htk1)
def Z79 (a0:TRef):Option TRef:=(appC 8 ((TRef.mk a0.FName (Sl.nil:Sl Int)).FWraps) a0.FWraps).bind fun x5=>some (TRef.mk ((TRef.mk a0.FName (Sl.nil:Sl Int)).FName) x5)
theorem Z79_walk {a0 r:TRef}(hE:Z79 a0=some r) (H:Heap) :AC Tryz.prog 49 [.agg (TRef.c a0)] H fun v h'=>v=.a (.agg (TRef.c r))/\h'=H:=by
 unfold Z79 at hE;refine AC.oW 14 [.cell 2 37] Tryz.call49 Tryz.func49 ?_;refine seqR (S BX ?_);refine Sl ?_;refine nil ?_;refine seqR (S Fv (S Ld (S BU ?_)));refine Sl ?_;refine AOps.tok 1 fun tk3_3 htk3_3=>?_;refine AOps.relocal 1 _ rfl (fun j w cs hh hx=>tok_cell 1 1 1 hh (t:=tk3_3) hpG hx rfl) ?_;refine Sf ?_;refine AOps.relocal 1 _ rfl (fun j w cs hh hx=>tok_cell 1 1 1 hh (t:=tk3_3) hpG hx rfl) ?_
 refine nil ?_;refine seqR (S FL (S LL (S Fv (S Ld ?_))));obtain⟨x5,gx5,hE⟩:=bO hE;refine SH (am (intE .i64) (TK rfl) rfl (TK rfl) (TK rfl) gx5) ?_;refine hq (H.set tk3_3 (some (.tok 1 x5.l.length))) ?_;refine S FL ?_;refine Sf ?_;refine nil ?_;refine seqK fun K6 hK6=>?_;refine AWp.relocal 1 _ rfl (fun j w cs hh hx=>untok_cell 1 hx rfl) ?_;refine region ?_;refine S LL ?_;refine Sf ?_;refine nil ?_
 refine hK6 _ ?_;clear hK6 K6;refine AWp.ret ?_;repeat (first|refine xBlock_ret ?_|refine xThen_ret ?_)
 obtain rfl:=oJ hE;refine retQ.retF H rfl ⟨rfl,rfl⟩ ?_
 first|exact Heap.sub_set htk3_3|(simp only [Heap.set_set]; exact Heap.sub_set htk3_3)
def Z76_j8  (s6_9:(Sl Z5)):Option (Sl Z5):=some s6_9
def Z76_l12 (a0:(Sl Z5)) (x6:(Sl Int)) :Nat->(Sl Z5)->Nat->Option (Sl Z5)
 | 0,_,_=>none
 | n12+1,s6_13,s7_14=>bif (decide (((s7_14:Nat):Int)<((x6.l.length:Nat):Int))) then((x6.l[s7_14]?).bind fun x21=>(idxC a0.l x21).bind fun x22=>(Z79 x22.FType).bind fun x23=>(r02_Copy x22.FDefault).bind fun x24=>(Z74 x22.FDirs).bind fun x25=>(appC 168 s6_13 (⟨false,[(Z5.mk x22.FName x23 x22.FHas x24 x25)]⟩:Sl Z5)).bind fun x26=>(Z76_l12 a0 x6 n12) x26 (s7_14+1)) else(Z76_j8   s6_13)
def Z76_j3 (a0:(Sl Z5))  (s3_4:(Sl Bs)):Option (Sl Z5):=(Z78 s3_4).bind fun x6=>Z76_l12 a0 x6 (x6.l.length+1) (Sl.nil:Sl Z5) 0
def Z76_l28 (a0:(Sl Z5)) :Nat->(Sl Bs)->Nat->Option (Sl Z5)
 | 0,_,_=>none
 | n28+1,s3_29,s4_30=>bif (decide (((s4_30:Nat):Int)<((a0.l.length:Nat):Int))) then((a0.l[s4_30]?).bind fun x36=>(appC 16 s3_29 (⟨false,[x36.FName]⟩:Sl Bs)).bind fun x37=>(Z76_l28 a0 n28) x37 (s4_30+1)) else(Z76_j3 a0  s3_29)
def Z76 (a0:(Sl Z5)):Option (Sl Z5):=Z76_l28 a0 (a0.l.length+1) (Sl.nil:Sl Bs) 0
theorem Z76_walk {a0:Sl Z5}{w0:Option Nat}{r:Sl Z5}(hE:Z76 a0=some r) (H:Heap) :AC Tryz.prog 22 [.d (Sl.d 10 Z5.c w0 a0)] H fun v h'=>v=.a (.d (Sl.d 10 Z5.c none r))/\h'=H:=by
 unfold Z76 at hE;refine AC.oW 56 [.tmp 2] Tryz.call22 Tryz.func22 ?_;refine AWp.tok 1 fun tk1 htk1=>?_;refine AWp.tok 10 fun tk2 htk2=>?_;obtain⟨ne_tk2_tk1,htk2⟩:=Heap.set_fresh htk2;refine seqR ?_;refine s0 (assignNil (k':=10) rfl) rfl ?_;refine nil ?_;refine seqR (S As (nil ?_));refine AWp.nilTok 3 1 tk1 rfl hpG ?_;refine seqJH (TA 0 kN) (fun(z:(Sl Bs))=>[(3,.a (.d (Sl.d 1 strE (some tk1) z)))]) (fun z=>((H.set tk1 (some (.tok 1 z.l.length))).set tk2 (some (.tok 10 0)))) (fun z=>Z76_j3 a0 z=some r) ?_ ?_
 ·intro K3 hK3;refine seqR (S As (nil ?_));refine block ?_;refine loopH (TA 0 kN) (fun(z:Nat×(Sl Bs)×Nat)=>[(3,.a (.d (Sl.d 1 strE (some tk1) z.2.1))),(4,.a (.d (.int .i64 ((z.2.2:Nat):Int))))]) (fun z=>((H.set tk1 (some (.tok 1 z.2.1.l.length))).set tk2 (some (.tok 10 0)))) (fun z=>z.1) (fun z=>Z76_l28 a0 z.1 z.2.1 z.2.2=some r) ((a0.l.length+1),(Sl.nil:Sl Bs),0) hE wA ?_;rintro ⟨n28,s3_29,s4_30⟩ hE K28 hK28
  try dsimp only at hE
  cases n28 with
  | zero=>cases hE
  | succ n28 =>
    rw [Z76_l28] at hE;refine seqK fun K31 hK31=>?_;refine seqR (S Mv (S Mv ?_));refine sLen (f:=Z5.c) (s:=a0) (TK rfl) rfl rfl rfl rfl fun hL33=>?_;refine S BI (nil ?_);refine cE hE (fun hc34 hE=>?_) (fun hc34 hE=>?_)
    ·try dsimp only at hc34
     have hf34:=oD hc34;refine sk hK31 ?_;clear hK31 K31;refine seqK fun K35 hK35=>?_;refine block ?_;refine region ?_;refine S Mv (S Mv (S Mv ?_));obtain⟨x36,gx36,hE⟩:=bO hE;refine S (ix Z5.c s4_30 gx36) (S Fv (S Ld (S BV ?_)));obtain⟨x37,gx37,hE⟩:=bO hE;refine SH (am strE (TK rfl) rfl (TK rfl) (TK rfl) gx37) ?_;refine hq ((H.set tk1 (some (.tok 1 x37.l.length))).set tk2 (some (.tok 10 0))) ?_
     refine S As (nil ?_);refine hK35 _ ?_;clear hK35 K35;refine region ?_;refine S Mv ?_;refine SI ?_;refine S As (nil ?_);exact hK28 _ (n28,x37,(s4_30+1)) wA hE (nS _)
    refine AWp.exit ?_;exact hK3 _ s3_29 wA hE
 rintro s3_4 hE;try dsimp only at hE
 unfold Z76_j3 at hE;refine seqR (S Mv ?_);obtain⟨x6,gx6,hE⟩:=bO hE;refine Sc rfl rfl (Z78_walk gx6) ?_;refine S As (nil ?_);refine seqR (S As (nil ?_));refine AWp.nilTok 6 10 tk2 rfl hpG ?_;refine seqJH kN (fun(z:(Sl Z5))=>[(6,.a (.d (Sl.d 10 Z5.c (some tk2) z)))]) (fun z=>((H.set tk1 (some (.tok 1 s3_4.l.length))).set tk2 (some (.tok 10 z.l.length)))) (fun z=>Z76_j8 z=some r) ?_ ?_
 ·intro K8 hK8;refine seqR (S As (nil ?_));refine block ?_;refine loopH (TA 0 (TA 5 kN)) (fun(z:Nat×(Sl Z5)×Nat)=>[(6,.a (.d (Sl.d 10 Z5.c (some tk2) z.2.1))),(7,.a (.d (.int .i64 ((z.2.2:Nat):Int))))]) (fun z=>((H.set tk1 (some (.tok 1 s3_4.l.length))).set tk2 (some (.tok 10 z.2.1.l.length)))) (fun z=>z.1) (fun z=>Z76_l12 a0 x6 z.1 z.2.1 z.2.2=some r) ((x6.l.length+1),(Sl.nil:Sl Z5),0) hE wA ?_
  rintro ⟨n12,s6_13,s7_14⟩ hE K12 hK12;try dsimp only at hE
  cases n12 with
  | zero=>cases hE
  | succ n12 =>
    rw [Z76_l12] at hE;refine seqK fun K15 hK15=>?_;refine seqR (S Mv (S Mv ?_));refine sLen (f:=(intE .i64)) (s:=x6) (TK rfl) rfl rfl rfl rfl fun hL17=>?_;refine S BI (nil ?_);refine cE hE (fun hc18 hE=>?_) (fun hc18 hE=>?_)
    ·try dsimp only at hc18
     have hf18:=oD hc18;refine sk hK15 ?_;clear hK15 K15;refine seqK fun K19 hK19=>?_;refine block ?_;refine seqR (S Mv (S Mv (S Mv ?_)));obtain⟨x21,gx21,hE⟩:=bO hE;refine S (ix (intE .i64) s7_14 gx21) ?_;refine S Ld ?_;obtain⟨x22,gx22,hE⟩:=bO hE;refine s0 (idxM (f:=Z5.c) (TK rfl) rfl (TK rfl) rfl rfl rfl gx22) rfl ?_;refine S Ld ?_;refine Sl ?_;refine Sf ?_;refine nil ?_;refine freezeA 8 _ rfl (KA 0 (KA 5 (KA 6 (KA 7 Keeps.nil)))) ?_
     refine AWp.draw rfl ?_;refine Sd Mv (Sd Fv (Sd Ld (Sd Fv (Sd Ld ?_))));obtain⟨x23,gx23,hE⟩:=bO hE;refine Scd rfl rfl (Z79_walk gx23) ?_;refine Sd Fv (Sd Ld (Sd Fv (Sd Ld ?_)));obtain⟨x24,gx24,hE⟩:=bO hE;refine Scd rfl rfl (r02_Copy_walk gx24) ?_;refine Sd Fv (Sd Ld ?_);obtain⟨x25,gx25,hE⟩:=bO hE;refine Scd rfl rfl (Z74_walk gx25) ?_;refine Sd BU (Sd BV ?_);obtain⟨x26,gx26,hE⟩:=bO hE;refine DOps.sH (appM (f:=Z5.c) (TK rfl) rfl (TK rfl) (TK rfl) ⟨_,rfl⟩ rfl rfl (by decide) rfl rfl rfl rfl hpG rfl gx26) rfl ?_
     refine DOps.Dh ((H.set tk1 (some (.tok 1 s3_4.l.length))).set tk2 (some (.tok 10 x26.l.length))) ?_;refine Sd As ?_;refine DOps.nil (by decide +kernel) ?_;refine hK19 _ ?_;clear hK19 K19;refine region ?_;refine S Mv ?_;refine SI ?_;refine S As (nil ?_);exact hK12 _ (n12,x26,(s7_14+1)) wA hE (nS _)
    refine AWp.exit ?_;exact hK8 _ s6_13 wA hE
 rintro s6_9 hE;try dsimp only at hE
 unfold Z76_j8 at hE;refine seqR (S Mv (S As (nil ?_)));refine AWp.dropTok 2 rfl ?_;refine AWp.ret ?_;repeat (first|refine xBlock_ret ?_|refine xThen_ret ?_)
 obtain rfl:=oJ hE;refine retQ.retF H rfl ⟨rfl,rfl⟩ ?_;intro id_ o_ he_;have e_tk1:id_≠tk1:=fun e_=>by subst e_; simp_all [Heap.set]
 have e_tk2:id_≠tk2:=fun e_=>by subst e_; simp_all [Heap.set]
 rw [<- he_];simp only [Heap.set] at he_ ⊢
 (repeat' split)<;>simp_all
def Z75_j8  (s6_9:(Sl Z4)):Option (Sl Z4):=some s6_9
def Z75_l12 (a0:(Sl Z4)) (x6:(Sl Int)) :Nat->(Sl Z4)->Nat->Option (Sl Z4)
 | 0,_,_=>none
 | n12+1,s6_13,s7_14=>bif (decide (((s7_14:Nat):Int)<((x6.l.length:Nat):Int))) then((x6.l[s7_14]?).bind fun x21=>(idxC a0.l x21).bind fun x22=>(Z76 x22.FArgs).bind fun x23=>(Z79 x22.FType).bind fun x24=>(Z74 x22.FDirs).bind fun x25=>(appC 104 s6_13 (⟨false,[(Z4.mk x22.FName x23 x24 x25)]⟩:Sl Z4)).bind fun x26=>(Z75_l12 a0 x6 n12) x26 (s7_14+1)) else(Z75_j8   s6_13)
def Z75_j3 (a0:(Sl Z4))  (s3_4:(Sl Bs)):Option (Sl Z4):=(Z78 s3_4).bind fun x6=>Z75_l12 a0 x6 (x6.l.length+1) (Sl.nil:Sl Z4) 0
def Z75_l28 (a0:(Sl Z4)) :Nat->(Sl Bs)->Nat->Option (Sl Z4)
 | 0,_,_=>none
 | n28+1,s3_29,s4_30=>bif (decide (((s4_30:Nat):Int)<((a0.l.length:Nat):Int))) then((a0.l[s4_30]?).bind fun x36=>(appC 16 s3_29 (⟨false,[x36.FName]⟩:Sl Bs)).bind fun x37=>(Z75_l28 a0 n28) x37 (s4_30+1)) else(Z75_j3 a0  s3_29)
def Z75 (a0:(Sl Z4)):Option (Sl Z4):=Z75_l28 a0 (a0.l.length+1) (Sl.nil:Sl Bs) 0
theorem Z75_walk {a0:Sl Z4}{w0:Option Nat}{r:Sl Z4}(hE:Z75 a0=some r) (H:Heap) :AC Tryz.prog 20 [.d (Sl.d 5 Z4.c w0 a0)] H fun v h'=>v=.a (.d (Sl.d 5 Z4.c none r))/\h'=H:=by
 unfold Z75 at hE;refine AC.oW 54 [.tmp 2] Tryz.call20 Tryz.func20 ?_;refine AWp.tok 1 fun tk1 htk1=>?_;refine AWp.tok 5 fun tk2 htk2=>?_;obtain⟨ne_tk2_tk1,htk2⟩:=Heap.set_fresh htk2;refine seqR ?_;refine s0 (assignNil (k':=5) rfl) rfl ?_;refine nil ?_;refine seqR (S As (nil ?_));refine AWp.nilTok 3 1 tk1 rfl hpG ?_;refine seqJH (TA 0 kN) (fun(z:(Sl Bs))=>[(3,.a (.d (Sl.d 1 strE (some tk1) z)))]) (fun z=>((H.set tk1 (some (.tok 1 z.l.length))).set tk2 (some (.tok 5 0)))) (fun z=>Z75_j3 a0 z=some r) ?_ ?_
 ·intro K3 hK3;refine seqR (S As (nil ?_));refine block ?_;refine loopH (TA 0 kN) (fun(z:Nat×(Sl Bs)×Nat)=>[(3,.a (.d (Sl.d 1 strE (some tk1) z.2.1))),(4,.a (.d (.int .i64 ((z.2.2:Nat):Int))))]) (fun z=>((H.set tk1 (some (.tok 1 z.2.1.l.length))).set tk2 (some (.tok 5 0)))) (fun z=>z.1) (fun z=>Z75_l28 a0 z.1 z.2.1 z.2.2=some r) ((a0.l.length+1),(Sl.nil:Sl Bs),0) hE wA ?_;rintro ⟨n28,s3_29,s4_30⟩ hE K28 hK28
  try dsimp only at hE
  cases n28 with
  | zero=>cases hE
  | succ n28 =>
    rw [Z75_l28] at hE;refine seqK fun K31 hK31=>?_;refine seqR (S Mv (S Mv ?_));refine sLen (f:=Z4.c) (s:=a0) (TK rfl) rfl rfl rfl rfl fun hL33=>?_;refine S BI (nil ?_);refine cE hE (fun hc34 hE=>?_) (fun hc34 hE=>?_)
    ·try dsimp only at hc34
     have hf34:=oD hc34;refine sk hK31 ?_;clear hK31 K31;refine seqK fun K35 hK35=>?_;refine block ?_;refine region ?_;refine S Mv (S Mv (S Mv ?_));obtain⟨x36,gx36,hE⟩:=bO hE;refine S (ix Z4.c s4_30 gx36) (S Fv (S Ld (S BV ?_)));obtain⟨x37,gx37,hE⟩:=bO hE;refine SH (am strE (TK rfl) rfl (TK rfl) (TK rfl) gx37) ?_;refine hq ((H.set tk1 (some (.tok 1 x37.l.length))).set tk2 (some (.tok 5 0))) ?_
     refine S As (nil ?_);refine hK35 _ ?_;clear hK35 K35;refine region ?_;refine S Mv ?_;refine SI ?_;refine S As (nil ?_);exact hK28 _ (n28,x37,(s4_30+1)) wA hE (nS _)
    refine AWp.exit ?_;exact hK3 _ s3_29 wA hE
 rintro s3_4 hE;try dsimp only at hE
 unfold Z75_j3 at hE;refine seqR (S Mv ?_);obtain⟨x6,gx6,hE⟩:=bO hE;refine Sc rfl rfl (Z78_walk gx6) ?_;refine S As (nil ?_);refine seqR (S As (nil ?_));refine AWp.nilTok 6 5 tk2 rfl hpG ?_;refine seqJH kN (fun(z:(Sl Z4))=>[(6,.a (.d (Sl.d 5 Z4.c (some tk2) z)))]) (fun z=>((H.set tk1 (some (.tok 1 s3_4.l.length))).set tk2 (some (.tok 5 z.l.length)))) (fun z=>Z75_j8 z=some r) ?_ ?_
 ·intro K8 hK8;refine seqR (S As (nil ?_));refine block ?_;refine loopH (TA 0 (TA 5 kN)) (fun(z:Nat×(Sl Z4)×Nat)=>[(6,.a (.d (Sl.d 5 Z4.c (some tk2) z.2.1))),(7,.a (.d (.int .i64 ((z.2.2:Nat):Int))))]) (fun z=>((H.set tk1 (some (.tok 1 s3_4.l.length))).set tk2 (some (.tok 5 z.2.1.l.length)))) (fun z=>z.1) (fun z=>Z75_l12 a0 x6 z.1 z.2.1 z.2.2=some r) ((x6.l.length+1),(Sl.nil:Sl Z4),0) hE wA ?_
  rintro ⟨n12,s6_13,s7_14⟩ hE K12 hK12;try dsimp only at hE
  cases n12 with
  | zero=>cases hE
  | succ n12 =>
    rw [Z75_l12] at hE;refine seqK fun K15 hK15=>?_;refine seqR (S Mv (S Mv ?_));refine sLen (f:=(intE .i64)) (s:=x6) (TK rfl) rfl rfl rfl rfl fun hL17=>?_;refine S BI (nil ?_);refine cE hE (fun hc18 hE=>?_) (fun hc18 hE=>?_)
    ·try dsimp only at hc18
     have hf18:=oD hc18;refine sk hK15 ?_;clear hK15 K15;refine seqK fun K19 hK19=>?_;refine block ?_;refine seqR (S Mv (S Mv (S Mv ?_)));obtain⟨x21,gx21,hE⟩:=bO hE;refine S (ix (intE .i64) s7_14 gx21) ?_;refine S Ld ?_;obtain⟨x22,gx22,hE⟩:=bO hE;refine s0 (idxM (f:=Z4.c) (TK rfl) rfl (TK rfl) rfl rfl rfl gx22) rfl ?_;refine S Ld ?_;refine Sl ?_;refine Sf ?_;refine nil ?_;refine freezeA 8 _ rfl (KA 0 (KA 5 (KA 6 (KA 7 Keeps.nil)))) ?_
     refine AWp.draw rfl ?_;refine Sd Mv (Sd Fv (Sd Ld (Sd Fv (Sd Ld ?_))));obtain⟨x23,gx23,hE⟩:=bO hE;refine Scd rfl rfl (Z76_walk gx23) ?_;refine Sd Fv (Sd Ld ?_);obtain⟨x24,gx24,hE⟩:=bO hE;refine Scd rfl rfl (Z79_walk gx24) ?_;refine Sd Fv (Sd Ld ?_);obtain⟨x25,gx25,hE⟩:=bO hE;refine Scd rfl rfl (Z74_walk gx25) ?_;refine Sd BU (Sd BV ?_);obtain⟨x26,gx26,hE⟩:=bO hE;refine DOps.sH (appM (f:=Z4.c) (TK rfl) rfl (TK rfl) (TK rfl) ⟨_,rfl⟩ rfl rfl (by decide) rfl rfl rfl rfl hpG rfl gx26) rfl ?_
     refine DOps.Dh ((H.set tk1 (some (.tok 1 s3_4.l.length))).set tk2 (some (.tok 5 x26.l.length))) ?_;refine Sd As ?_;refine DOps.nil (by decide +kernel) ?_;refine hK19 _ ?_;clear hK19 K19;refine region ?_;refine S Mv ?_;refine SI ?_;refine S As (nil ?_);exact hK12 _ (n12,x26,(s7_14+1)) wA hE (nS _)
    refine AWp.exit ?_;exact hK8 _ s6_13 wA hE
 rintro s6_9 hE;try dsimp only at hE
 unfold Z75_j8 at hE;refine seqR (S Mv (S As (nil ?_)));refine AWp.dropTok 2 rfl ?_;refine AWp.ret ?_;repeat (first|refine xBlock_ret ?_|refine xThen_ret ?_)
 obtain rfl:=oJ hE;refine retQ.retF H rfl ⟨rfl,rfl⟩ ?_;intro id_ o_ he_;have e_tk1:id_≠tk1:=fun e_=>by subst e_; simp_all [Heap.set]
 have e_tk2:id_≠tk2:=fun e_=>by subst e_; simp_all [Heap.set]
 rw [<- he_];simp only [Heap.set] at he_ ⊢
 (repeat' split)<;>simp_all
def Z77_j8  (s6_9:(Sl Z6)):Option (Sl Z6):=some s6_9
def Z77_l12 (a0:(Sl Z6)) (x6:(Sl Int)) :Nat->(Sl Z6)->Nat->Option (Sl Z6)
 | 0,_,_=>none
 | n12+1,s6_13,s7_14=>bif (decide (((s7_14:Nat):Int)<((x6.l.length:Nat):Int))) then((x6.l[s7_14]?).bind fun x20=>(idxC a0.l x20).bind fun x21=>(x6.l[s7_14]?).bind fun x22=>(idxC a0.l x22).bind fun x23=>(Z74 x23.FDirs).bind fun x24=>(appC 40 s6_13 (⟨false,[(Z6.mk x21.FName x24)]⟩:Sl Z6)).bind fun x25=>(Z77_l12 a0 x6 n12) x25 (s7_14+1)) else(Z77_j8   s6_13)
def Z77_j3 (a0:(Sl Z6))  (s3_4:(Sl Bs)):Option (Sl Z6):=(Z78 s3_4).bind fun x6=>Z77_l12 a0 x6 (x6.l.length+1) (Sl.nil:Sl Z6) 0
def Z77_l27 (a0:(Sl Z6)) :Nat->(Sl Bs)->Nat->Option (Sl Z6)
 | 0,_,_=>none
 | n27+1,s3_28,s4_29=>bif (decide (((s4_29:Nat):Int)<((a0.l.length:Nat):Int))) then((a0.l[s4_29]?).bind fun x35=>(appC 16 s3_28 (⟨false,[x35.FName]⟩:Sl Bs)).bind fun x36=>(Z77_l27 a0 n27) x36 (s4_29+1)) else(Z77_j3 a0  s3_28)
def Z77 (a0:(Sl Z6)):Option (Sl Z6):=Z77_l27 a0 (a0.l.length+1) (Sl.nil:Sl Bs) 0
theorem Z77_walk {a0:Sl Z6}{w0:Option Nat}{r:Sl Z6}(hE:Z77 a0=some r) (H:Heap) :AC Tryz.prog 21 [.d (Sl.d 2 Z6.c w0 a0)] H fun v h'=>v=.a (.d (Sl.d 2 Z6.c none r))/\h'=H:=by
 unfold Z77 at hE;refine AC.oW 52 [.tmp 2] Tryz.call21 Tryz.func21 ?_;refine AWp.tok 1 fun tk1 htk1=>?_;refine AWp.tok 2 fun tk2 htk2=>?_;obtain⟨ne_tk2_tk1,htk2⟩:=Heap.set_fresh htk2;refine seqR ?_;refine s0 (assignNil (k':=2) rfl) rfl ?_;refine nil ?_;refine seqR (S As (nil ?_));refine AWp.nilTok 3 1 tk1 rfl hpG ?_;refine seqJH (TA 0 kN) (fun(z:(Sl Bs))=>[(3,.a (.d (Sl.d 1 strE (some tk1) z)))]) (fun z=>((H.set tk1 (some (.tok 1 z.l.length))).set tk2 (some (.tok 2 0)))) (fun z=>Z77_j3 a0 z=some r) ?_ ?_
 ·intro K3 hK3;refine seqR (S As (nil ?_));refine block ?_;refine loopH (TA 0 kN) (fun(z:Nat×(Sl Bs)×Nat)=>[(3,.a (.d (Sl.d 1 strE (some tk1) z.2.1))),(4,.a (.d (.int .i64 ((z.2.2:Nat):Int))))]) (fun z=>((H.set tk1 (some (.tok 1 z.2.1.l.length))).set tk2 (some (.tok 2 0)))) (fun z=>z.1) (fun z=>Z77_l27 a0 z.1 z.2.1 z.2.2=some r) ((a0.l.length+1),(Sl.nil:Sl Bs),0) hE wA ?_;rintro ⟨n27,s3_28,s4_29⟩ hE K27 hK27
  try dsimp only at hE
  cases n27 with
  | zero=>cases hE
  | succ n27 =>
    rw [Z77_l27] at hE;refine seqK fun K30 hK30=>?_;refine seqR (S Mv (S Mv ?_));refine sLen (f:=Z6.c) (s:=a0) (TK rfl) rfl rfl rfl rfl fun hL32=>?_;refine S BI (nil ?_);refine cE hE (fun hc33 hE=>?_) (fun hc33 hE=>?_)
    ·try dsimp only at hc33
     have hf33:=oD hc33;refine sk hK30 ?_;clear hK30 K30;refine seqK fun K34 hK34=>?_;refine block ?_;refine region ?_;refine S Mv (S Mv (S Mv ?_));obtain⟨x35,gx35,hE⟩:=bO hE;refine S (ix Z6.c s4_29 gx35) (S Fv (S Ld (S BV ?_)));obtain⟨x36,gx36,hE⟩:=bO hE;refine SH (am strE (TK rfl) rfl (TK rfl) (TK rfl) gx36) ?_;refine hq ((H.set tk1 (some (.tok 1 x36.l.length))).set tk2 (some (.tok 2 0))) ?_
     refine S As (nil ?_);refine hK34 _ ?_;clear hK34 K34;refine region ?_;refine S Mv ?_;refine SI ?_;refine S As (nil ?_);exact hK27 _ (n27,x36,(s4_29+1)) wA hE (nS _)
    refine AWp.exit ?_;exact hK3 _ s3_28 wA hE
 rintro s3_4 hE;try dsimp only at hE
 unfold Z77_j3 at hE;refine seqR (S Mv ?_);obtain⟨x6,gx6,hE⟩:=bO hE;refine Sc rfl rfl (Z78_walk gx6) ?_;refine S As (nil ?_);refine seqR (S As (nil ?_));refine AWp.nilTok 6 2 tk2 rfl hpG ?_;refine seqJH kN (fun(z:(Sl Z6))=>[(6,.a (.d (Sl.d 2 Z6.c (some tk2) z)))]) (fun z=>((H.set tk1 (some (.tok 1 s3_4.l.length))).set tk2 (some (.tok 2 z.l.length)))) (fun z=>Z77_j8 z=some r) ?_ ?_
 ·intro K8 hK8;refine seqR (S As (nil ?_));refine block ?_;refine loopH (TA 0 (TA 5 kN)) (fun(z:Nat×(Sl Z6)×Nat)=>[(6,.a (.d (Sl.d 2 Z6.c (some tk2) z.2.1))),(7,.a (.d (.int .i64 ((z.2.2:Nat):Int))))]) (fun z=>((H.set tk1 (some (.tok 1 s3_4.l.length))).set tk2 (some (.tok 2 z.2.1.l.length)))) (fun z=>z.1) (fun z=>Z77_l12 a0 x6 z.1 z.2.1 z.2.2=some r) ((x6.l.length+1),(Sl.nil:Sl Z6),0) hE wA ?_
  rintro ⟨n12,s6_13,s7_14⟩ hE K12 hK12;try dsimp only at hE
  cases n12 with
  | zero=>cases hE
  | succ n12 =>
    rw [Z77_l12] at hE;refine seqK fun K15 hK15=>?_;refine seqR (S Mv (S Mv ?_));refine sLen (f:=(intE .i64)) (s:=x6) (TK rfl) rfl rfl rfl rfl fun hL17=>?_;refine S BI (nil ?_);refine cE hE (fun hc18 hE=>?_) (fun hc18 hE=>?_)
    ·try dsimp only at hc18
     have hf18:=oD hc18;refine sk hK15 ?_;clear hK15 K15;refine seqK fun K19 hK19=>?_;refine block ?_;refine AWp.draw rfl ?_;refine Sd Mv (Sd Mv (Sd Mv (Sd Mv ?_)));obtain⟨x20,gx20,hE⟩:=bO hE;refine Sd (ix (intE .i64) s7_14 gx20) ?_;refine Sd Ld ?_;obtain⟨x21,gx21,hE⟩:=bO hE;refine DOps.s0 (idxM (f:=Z6.c) (TK rfl) rfl (TK rfl) rfl rfl rfl gx21) rfl ?_;refine Sd Fv (Sd Ld (Sd Mv (Sd Mv (Sd Mv ?_))))
     obtain⟨x22,gx22,hE⟩:=bO hE;refine Sd (ix (intE .i64) s7_14 gx22) ?_;refine Sd Ld ?_;obtain⟨x23,gx23,hE⟩:=bO hE;refine DOps.s0 (idxM (f:=Z6.c) (TK rfl) rfl (TK rfl) rfl rfl rfl gx23) rfl ?_;refine Sd Fv (Sd Ld ?_);obtain⟨x24,gx24,hE⟩:=bO hE;refine Scd rfl rfl (Z74_walk gx24) ?_;refine Sd BU (Sd BV ?_);obtain⟨x25,gx25,hE⟩:=bO hE;refine DOps.sH (appM (f:=Z6.c) (TK rfl) rfl (TK rfl) (TK rfl) ⟨_,rfl⟩ rfl rfl (by decide) rfl rfl rfl rfl hpG rfl gx25) rfl ?_
     refine DOps.Dh ((H.set tk1 (some (.tok 1 s3_4.l.length))).set tk2 (some (.tok 2 x25.l.length))) ?_;refine Sd As ?_;refine DOps.nil (by decide +kernel) ?_;refine hK19 _ ?_;clear hK19 K19;refine region ?_;refine S Mv ?_;refine SI ?_;refine S As (nil ?_);exact hK12 _ (n12,x25,(s7_14+1)) wA hE (nS _)
    refine AWp.exit ?_;exact hK8 _ s6_13 wA hE
 rintro s6_9 hE;try dsimp only at hE
 unfold Z77_j8 at hE;refine seqR (S Mv (S As (nil ?_)));refine AWp.dropTok 2 rfl ?_;refine AWp.ret ?_;repeat (first|refine xBlock_ret ?_|refine xThen_ret ?_)
 obtain rfl:=oJ hE;refine retQ.retF H rfl ⟨rfl,rfl⟩ ?_;intro id_ o_ he_;have e_tk1:id_≠tk1:=fun e_=>by subst e_; simp_all [Heap.set]
 have e_tk2:id_≠tk2:=fun e_=>by subst e_; simp_all [Heap.set]
 rw [<- he_];simp only [Heap.set] at he_ ⊢
 (repeat' split)<;>simp_all
end Go.Proofs

namespace Go.Proofs
open Go Go.Ab
open AOps Cert AWp Keeps KeepsT
variable {lou:Lou}
def Z73_j9  (y10_l1:TDoc):Option TDoc:=some y10_l1
def Z73_j20 (s7_14:Nat) (k_next_13:Nat->TDoc->Option TDoc) (y21_l1:TDoc):Option TDoc:=k_next_13 (s7_14+1) y21_l1
def Z73_j33 (s7_14:Nat) (y15_l1:TDoc) (k_next_13:Nat->TDoc->Option TDoc) (y34_l2:TDef):Option TDoc:=(appC 144 y15_l1.FDefs (⟨false,[y34_l2]⟩:Sl TDef)).bind fun x35=>Z73_j20 s7_14 k_next_13 (TDoc.mk x35)
def Z73_l37 (s7_14:Nat) (y15_l1:TDoc) (x24:TDef) (x32:(Sl Int)) (k_next_13:Nat->TDoc->Option TDoc):Nat->Nat->TDef->Option TDoc
 | 0,_,_=>none
 | n37+1,s11_38,y39_l2=>bif (decide (((s11_38:Nat):Int)<((x32.l.length:Nat):Int))) then((x32.l[s11_38]?).bind fun x45=>(idxC x24.FImplements.l x45).bind fun x46=>(appC 16 y39_l2.FImplements (⟨false,[x46]⟩:Sl Bs)).bind fun x47=>(Z73_l37 s7_14 y15_l1 x24 x32 k_next_13 n37) (s11_38+1) (TDef.mk y39_l2.FKind y39_l2.FName x47 y39_l2.FDirs y39_l2.FFields y39_l2.FMembers y39_l2.FInputs)) else(Z73_j33 s7_14 y15_l1 k_next_13 y39_l2)
def Z73_l13 (a0:TDoc) (x6:(Sl Int)) :Nat->Nat->TDoc->Option TDoc
 | 0,_,_=>none
 | n13+1,s7_14,y15_l1=>bif (decide (((s7_14:Nat):Int)<((x6.l.length:Nat):Int))) then((x6.l[s7_14]?).bind fun x23=>(idxC a0.FDefs.l x23).bind fun x24=>(Z74 x24.FDirs).bind fun x26=>(Z75 x24.FFields).bind fun x27=>(Z77 x24.FMembers).bind fun x28=>(Z76 x24.FInputs).bind fun x29=>(Z78 x24.FImplements).bind fun x32=>Z73_l37 s7_14 y15_l1 x24 x32 ((Z73_l13 a0 x6 n13)) (x32.l.length+1) 0 (TDef.mk x24.FKind x24.FName (Sl.nil:Sl Bs) x26 x27 x28 x29)) else(Z73_j9   y15_l1)
def Z73_j3 (a0:TDoc)  (s3_4:(Sl Bs)):Option TDoc:=(Z78 s3_4).bind fun x6=>Z73_l13 a0 x6 (x6.l.length+1) 0 TDoc.zero
def Z73_l49 (a0:TDoc) :Nat->(Sl Bs)->Nat->Option TDoc
 | 0,_,_=>none
 | n49+1,s3_50,s4_51=>bif (decide (((s4_51:Nat):Int)<((a0.FDefs.l.length:Nat):Int))) then((a0.FDefs.l[s4_51]?).bind fun x57=>(appC 16 s3_50 (⟨false,[x57.FName]⟩:Sl Bs)).bind fun x58=>(Z73_l49 a0 n49) x58 (s4_51+1)) else(Z73_j3 a0  s3_50)
def Z73 (a0:TDoc):Option TDoc:=Z73_l49 a0 (a0.FDefs.l.length+1) (Sl.nil:Sl Bs) 0
theorem Z73_walk {a0 r:TDoc}(hE:Z73 a0=some r) (H:Heap) :AC Tryz.prog 7 [.agg (TDoc.c a0)] H fun v h'=>v=.a (.agg (TDoc.c r))/\h'=H:=by
 unfold Z73 at hE;refine AC.oW 90 [.cell 2 24] Tryz.call7 Tryz.func7 ?_;refine AWp.tok 1 fun tk1 htk1=>?_;refine seqR (S BX ?_);refine Sl ?_;refine nil ?_;refine seqR (S As (nil ?_));refine AWp.nilTok 3 1 tk1 rfl hpG ?_;refine seqJH (TA 1 (TA 2 kN)) (fun(z:(Sl Bs))=>[(3,.a (.d (Sl.d 1 strE (some tk1) z)))]) (fun z=>(H.set tk1 (some (.tok 1 z.l.length)))) (fun z=>Z73_j3 a0 z=some r) ?_ ?_
 ·intro K3 hK3;refine seqR (S As (nil ?_));refine block ?_;refine loopH (TA 1 (TA 2 kN)) (fun(z:Nat×(Sl Bs)×Nat)=>[(3,.a (.d (Sl.d 1 strE (some tk1) z.2.1))),(4,.a (.d (.int .i64 ((z.2.2:Nat):Int))))]) (fun z=>(H.set tk1 (some (.tok 1 z.2.1.l.length)))) (fun z=>z.1) (fun z=>Z73_l49 a0 z.1 z.2.1 z.2.2=some r) ((a0.FDefs.l.length+1),(Sl.nil:Sl Bs),0) hE wA ?_;rintro ⟨n49,s3_50,s4_51⟩ hE K49 hK49
  try dsimp only at hE
  cases n49 with
  | zero=>cases hE
  | succ n49 =>
    rw [Z73_l49] at hE;refine seqK fun K52 hK52=>?_;refine seqR (S Mv (S Fv (S Ld ?_)));refine sLen (f:=TDef.c) (s:=a0.FDefs) (TK rfl) rfl rfl rfl rfl fun hL54=>?_;refine S BI (nil ?_);refine cE hE (fun hc55 hE=>?_) (fun hc55 hE=>?_)
    ·try dsimp only at hc55
     have hf55:=oD hc55;refine sk hK52 ?_;clear hK52 K52;refine seqK fun K56 hK56=>?_;refine block ?_;refine region ?_;refine S Mv (S Fv (S Ld (S Mv ?_)));obtain⟨x57,gx57,hE⟩:=bO hE;refine S (ix TDef.c s4_51 gx57) (S Fv (S Ld (S BV ?_)));obtain⟨x58,gx58,hE⟩:=bO hE;refine SH (am strE (TK rfl) rfl (TK rfl) (TK rfl) gx58) ?_;refine hq (H.set tk1 (some (.tok 1 x58.l.length))) ?_;refine S As (nil ?_)
     refine hK56 _ ?_;clear hK56 K56;refine region ?_;refine S Mv ?_;refine SI ?_;refine S As (nil ?_);exact hK49 _ (n49,x58,(s4_51+1)) wA hE (nS _)
    refine AWp.exit ?_;exact hK3 _ s3_50 wA hE
 rintro s3_4 hE;try dsimp only at hE
 unfold Z73_j3 at hE;refine seqR (S Mv ?_);obtain⟨x6,gx6,hE⟩:=bO hE;refine Sc rfl rfl (Z78_walk gx6) ?_;refine S As (nil ?_);refine seqR ?_;refine Sl ?_;refine AOps.tok 7 fun tk6_8 htk6_8=>?_;obtain⟨ne_tk6_8_tk1,htk6_8⟩:=Heap.set_fresh htk6_8;refine AOps.relocal 1 _ rfl (fun j w cs hh hx=>tok_cell 0 7 7 hh (t:=tk6_8) hpG hx rfl) ?_;refine nil ?_;refine seqJ (TA 2 (TA 6 kN)) (fun(z:TDoc)=>[]) (fun z=>[TDoc.c TDoc.zero,([Sl.d 7 TDef.c (some tk6_8) z.FDefs])]) (fun z=>((H.set tk1 (some (.tok 1 s3_4.l.length))).set tk6_8 (some (.tok 7 z.FDefs.l.length)))) (fun z=>Z73_j9 z=some r) ?_ ?_
 ·intro K9 hK9;refine seqR (S As (nil ?_));refine block ?_;refine loopO (TA 1 (TA 2 (TA 5 (TA 6 kN)))) (fun(z:Nat×Nat×TDoc)=>[(7,.a (.d (.int .i64 ((z.2.1:Nat):Int))))]) (fun z=>[TDoc.c TDoc.zero,([Sl.d 7 TDef.c (some tk6_8) z.2.2.FDefs])]) (fun z=>((H.set tk1 (some (.tok 1 s3_4.l.length))).set tk6_8 (some (.tok 7 z.2.2.FDefs.l.length)))) (fun z=>z.1) (fun z=>Z73_l13 a0 x6 z.1 z.2.1 z.2.2=some r) ((x6.l.length+1),0,TDoc.zero) hE wA ?_
  rintro ⟨n13,s7_14,y15_l1⟩ hE K13 hK13;try dsimp only at hE
  cases n13 with
  | zero=>cases hE
  | succ n13 =>
    rw [Z73_l13] at hE;refine seqK fun K16 hK16=>?_;refine seqR (S Mv (S Mv ?_));refine sLen (f:=(intE .i64)) (s:=x6) (TK rfl) rfl rfl rfl rfl fun hL18=>?_;refine S BI (nil ?_);refine cE hE (fun hc19 hE=>?_) (fun hc19 hE=>?_)
    ·try dsimp only at hc19
     have hf19:=oD hc19;refine sk hK16 ?_;clear hK16 K16;refine seqJ (TA 1 (TA 2 (TA 5 (TA 6 (TA 7 kN))))) (fun(z:TDoc)=>[]) (fun z=>[TDoc.c TDoc.zero,([Sl.d 7 TDef.c (some tk6_8) z.FDefs])]) (fun z=>((H.set tk1 (some (.tok 1 s3_4.l.length))).set tk6_8 (some (.tok 7 z.FDefs.l.length)))) (fun z=>Z73_j20 s7_14 ((Z73_l13 a0 x6 n13)) z=some r) ?_ ?_
     ·intro K20 hK20;refine block ?_;refine AWp.seqD (Sd Fv (Sd Ld (Sd Mv (Sd Mv ?_))));obtain⟨x23,gx23,hE⟩:=bO hE;refine Sd (ix (intE .i64) s7_14 gx23) ?_;refine Sd Ld ?_;obtain⟨x24,gx24,hE⟩:=bO hE;refine DOps.s0 (idxM (f:=TDef.c) (TK rfl) rfl (TK rfl) rfl rfl rfl gx24) rfl ?_;refine Sd Ld ?_;refine DOps.sB (TK rfl) rfl rfl ?_ (by repeat (first|exact Snoc.nil|apply Snoc.cons));refine DOps.sLn (storeLFA (TK rfl) rfl rfl rfl rfl rfl) ?_
      refine DOps.nil (by decide +kernel) ?_;refine freezeA 8 _ rfl (KA 1 (KA 2 (KA 5 (KA 6 (KA 7 Keeps.nil))))) ?_;refine AWp.seqD (Sd Fv (Sd Ld (Sd Fv (Sd Ld (Sd Fv (Sd Ld ?_))))));obtain⟨x26,gx26,hE⟩:=bO hE;refine Scd rfl rfl (Z74_walk gx26) ?_;refine Sd Fv (Sd Ld ?_);obtain⟨x27,gx27,hE⟩:=bO hE;refine Scd rfl rfl (Z75_walk gx27) ?_;refine Sd Fv (Sd Ld ?_);obtain⟨x28,gx28,hE⟩:=bO hE;refine Scd rfl rfl (Z77_walk gx28) ?_
      refine Sd Fv (Sd Ld ?_);obtain⟨x29,gx29,hE⟩:=bO hE;refine Scd rfl rfl (Z76_walk gx29) ?_;refine Sd BU ?_;refine DOps.sB (TK rfl) rfl rfl ?_ (by repeat (first|exact Snoc.nil|apply Snoc.cons));refine DOps.sLn (storeLFA (TK rfl) rfl rfl rfl rfl rfl) ?_;refine DOps.nil (by decide +kernel) ?_;refine AWp.tok 1 fun tk9_30 htk9_30=>?_;obtain⟨ne_tk9_30_tk6_8,htk9_30⟩:=Heap.set_fresh htk9_30;obtain⟨ne_tk9_30_tk1,htk9_30⟩:=Heap.set_fresh htk9_30
      refine AWp.relocal 2 _ rfl (fun j w cs hh hx=>tok_cell 2 1 1 hh (t:=tk9_30) hpG hx rfl) ?_;refine seqR (S Fv (S Ld ?_));obtain⟨x32,gx32,hE⟩:=bO hE;refine Sc rfl rfl (Z78_walk gx32) ?_;refine S As (nil ?_);refine seqJ (TA 1 (TA 2 (TA 5 (TA 6 (TA 7 (TA 9 kN)))))) (fun(z:TDef)=>[]) (fun z=>[TDoc.c TDoc.zero,([Sl.d 7 TDef.c (some tk6_8) y15_l1.FDefs]),((intE .i64) z.FKind++strE z.FName++[Sl.d 1 strE (some tk9_30) z.FImplements]++(fun s=>[Sl.d 2 TDir.c none s]) z.FDirs++(fun s=>[Sl.d 5 Z4.c none s]) z.FFields++(fun s=>[Sl.d 2 Z6.c none s]) z.FMembers++(fun s=>[Sl.d 10 Z5.c none s]) z.FInputs)]) (fun z=>(((H.set tk1 (some (.tok 1 s3_4.l.length))).set tk6_8 (some (.tok 7 y15_l1.FDefs.l.length))).set tk9_30 (some (.tok 1 z.FImplements.l.length)))) (fun z=>Z73_j33 s7_14 y15_l1 ((Z73_l13 a0 x6 n13)) z=some r) ?_ ?_
      ·intro K33 hK33;refine seqR (S As (nil ?_));refine block ?_;refine loopO (TA 1 (TA 2 (TA 5 (TA 6 (TA 7 (TA 8 (TA 9 (TA 10 kN)))))))) (fun(z:Nat×Nat×TDef)=>[(11,.a (.d (.int .i64 ((z.2.1:Nat):Int))))]) (fun z=>[TDoc.c TDoc.zero,([Sl.d 7 TDef.c (some tk6_8) y15_l1.FDefs]),((intE .i64) z.2.2.FKind++strE z.2.2.FName++[Sl.d 1 strE (some tk9_30) z.2.2.FImplements]++(fun s=>[Sl.d 2 TDir.c none s]) z.2.2.FDirs++(fun s=>[Sl.d 5 Z4.c none s]) z.2.2.FFields++(fun s=>[Sl.d 2 Z6.c none s]) z.2.2.FMembers++(fun s=>[Sl.d 10 Z5.c none s]) z.2.2.FInputs)]) (fun z=>(((H.set tk1 (some (.tok 1 s3_4.l.length))).set tk6_8 (some (.tok 7 y15_l1.FDefs.l.length))).set tk9_30 (some (.tok 1 z.2.2.FImplements.l.length)))) (fun z=>z.1) (fun z=>Z73_l37 s7_14 y15_l1 x24 x32 ((Z73_l13 a0 x6 n13)) z.1 z.2.1 z.2.2=some r) ((x32.l.length+1),0,(TDef.mk x24.FKind x24.FName (Sl.nil:Sl Bs) x26 x27 x28 x29)) hE wA ?_
       rintro ⟨n37,s11_38,y39_l2⟩ hE K37 hK37;try dsimp only at hE
       cases n37 with
       | zero=>cases hE
       | succ n37 =>
         rw [Z73_l37] at hE;refine seqK fun K40 hK40=>?_;refine seqR (S Mv (S Mv ?_));refine sLen (f:=(intE .i64)) (s:=x32) (TK rfl) rfl rfl rfl rfl fun hL42=>?_;refine S BI (nil ?_);refine cE hE (fun hc43 hE=>?_) (fun hc43 hE=>?_)
         ·try dsimp only at hc43
          have hf43:=oD hc43;refine sk hK40 ?_;clear hK40 K40;refine seqK fun K44 hK44=>?_;refine block ?_;refine AWp.draw rfl ?_;refine Sd FL (Sd LL (Sd Fv (Sd Ld (Sd Mv (Sd Mv ?_)))));obtain⟨x45,gx45,hE⟩:=bO hE;refine Sd (ix (intE .i64) s11_38 gx45) ?_;refine Sd Ld ?_;obtain⟨x46,gx46,hE⟩:=bO hE;refine DOps.s0 (idxM (f:=strE) (TK rfl) rfl (TK rfl) rfl rfl rfl gx46) rfl ?_;refine Sd Ld (Sd BV ?_)
          obtain⟨x47,gx47,hE⟩:=bO hE;refine DOps.sH (appM (f:=strE) (TK rfl) rfl (TK rfl) (TK rfl) ⟨_,rfl⟩ rfl rfl (by decide) rfl rfl rfl rfl hpG rfl gx47) rfl ?_;refine DOps.Dh (((H.set tk1 (some (.tok 1 s3_4.l.length))).set tk6_8 (some (.tok 7 y15_l1.FDefs.l.length))).set tk9_30 (some (.tok 1 x47.l.length))) ?_;refine Sd FL ?_;refine DOps.sLn (storeL1 (TK rfl) rfl rfl rfl rfl (by repeat (first|exact SetAt.zero|apply SetAt.succ)) (by repeat (first|exact SetAt.zero|apply SetAt.succ))) ?_
          refine DOps.nil (by decide +kernel) ?_;refine hK44 _ ?_;clear hK44 K44;refine region ?_;refine S Mv ?_;refine SI ?_;refine S As (nil ?_);exact hK37 _ (n37,(s11_38+1),(TDef.mk y39_l2.FKind y39_l2.FName x47 y39_l2.FDirs y39_l2.FFields y39_l2.FMembers y39_l2.FInputs)) wA hE (nS _)
         refine AWp.exit ?_;exact hK33 _ y39_l2 wA hE
      rintro y34_l2 hE;try dsimp only at hE
      unfold Z73_j33 at hE;refine AWp.relocal 2 _ rfl (fun j w cs hh hx=>untok_cell 2 hx rfl) ?_;refine region ?_;refine S FL (S LL (S LL (S BV ?_)));obtain⟨x35,gx35,hE⟩:=bO hE;refine SH (am TDef.c (TK rfl) rfl (TK rfl) (TK rfl) gx35) ?_;refine hq (((H.set tk1 (some (.tok 1 s3_4.l.length))).set tk6_8 (some (.tok 7 x35.l.length))).set tk9_30 (some (.tok 1 y34_l2.FImplements.l.length))) ?_;refine S FL ?_
      refine Sf ?_;refine nil ?_;exact hK20 _ (TDoc.mk x35) (Weak.toFA (by(intro id_ o_ he_); (have e_tk9_30:id_≠tk9_30:=fun e_=>by rw [e_] at he_; simp [Heap.set,htk9_30,ne_tk9_30_tk1,ne_tk9_30_tk6_8] at he_); (rw [<- he_]); (simp only [Heap.set,if_neg e_tk9_30]); (first|done|rfl))) hE
     rintro y21_l1 hE;try dsimp only at hE
     unfold Z73_j20 at hE;refine region ?_;refine S Mv ?_;refine SI ?_;refine S As (nil ?_);exact hK13 _ (n13,(s7_14+1),y21_l1) wA hE (nS _)
    refine AWp.exit ?_;exact hK9 _ y15_l1 wA hE
 rintro y10_l1 hE;try dsimp only at hE
 unfold Z73_j9 at hE;refine seqK fun K11 hK11=>?_;refine AWp.relocal 1 _ rfl (fun j w cs hh hx=>untok_cell 0 hx rfl) ?_;refine region ?_;refine S LL ?_;refine Sf ?_;refine nil ?_;refine hK11 _ ?_;clear hK11 K11;refine AWp.ret ?_;repeat (first|refine xBlock_ret ?_|refine xThen_ret ?_)
 obtain rfl:=oJ hE;refine retQ.retF H rfl ⟨rfl,rfl⟩ ?_;intro id_ o_ he_;have e_tk1:id_≠tk1:=fun e_=>by subst e_; simp_all [Heap.set]
 have e_tk6_8:id_≠tk6_8:=fun e_=>by subst e_; simp_all [Heap.set]
 rw [<- he_];simp only [Heap.set] at he_ ⊢
 (repeat' split)<;>simp_all
def Z113_j3  (s3_4:(Sl Z5)):Option (Sl Z5):=some s3_4
def Z113_l7 (a0:(Sl Z5)) :Nat->(Sl Z5)->Nat->Option (Sl Z5)
 | 0,_,_=>none
 | n7+1,s3_8,s4_9=>bif (decide (((s4_9:Nat):Int)<((a0.l.length:Nat):Int))) then((a0.l[s4_9]?).bind fun x16=>(appC 168 s3_8 (⟨false,[(Z5.mk x16.FName x16.FType x16.FHas x16.FDefault (Sl.nil:Sl TDir))]⟩:Sl Z5)).bind fun x18=>(Z113_l7 a0 n7) x18 (s4_9+1)) else(Z113_j3   s3_8)
def Z113 (a0:(Sl Z5)):Option (Sl Z5):=Z113_l7 a0 (a0.l.length+1) (Sl.nil:Sl Z5) 0
theorem Z113_walk {a0:Sl Z5}{w0:Option Nat}{r:Sl Z5}(hE:Z113 a0=some r) (H:Heap) :AC Tryz.prog 23 [.d (Sl.d 10 Z5.c w0 a0)] H fun v h'=>v=.a (.d (Sl.d 10 Z5.c none r))/\h'=H:=by
 unfold Z113 at hE;refine AC.oW 22 [.tmp 2] Tryz.call23 Tryz.func23 ?_;refine AWp.tok 10 fun tk1 htk1=>?_;refine seqR ?_;refine s0 (assignNil (k':=10) rfl) rfl ?_;refine nil ?_;refine seqR (S As (nil ?_));refine AWp.nilTok 3 10 tk1 rfl hpG ?_;refine seqJH kN (fun(z:(Sl Z5))=>[(3,.a (.d (Sl.d 10 Z5.c (some tk1) z)))]) (fun z=>(H.set tk1 (some (.tok 10 z.l.length)))) (fun z=>Z113_j3 z=some r) ?_ ?_
 ·intro K3 hK3;refine seqR (S As (nil ?_));refine block ?_;refine loopH (TA 0 kN) (fun(z:Nat×(Sl Z5)×Nat)=>[(3,.a (.d (Sl.d 10 Z5.c (some tk1) z.2.1))),(4,.a (.d (.int .i64 ((z.2.2:Nat):Int))))]) (fun z=>(H.set tk1 (some (.tok 10 z.2.1.l.length)))) (fun z=>z.1) (fun z=>Z113_l7 a0 z.1 z.2.1 z.2.2=some r) ((a0.l.length+1),(Sl.nil:Sl Z5),0) hE wA ?_;rintro ⟨n7,s3_8,s4_9⟩ hE K7 hK7;try dsimp only at hE
  cases n7 with
  | zero=>cases hE
  | succ n7 =>
    rw [Z113_l7] at hE;refine seqK fun K10 hK10=>?_;refine seqR (S Mv (S Mv ?_));refine sLen (f:=Z5.c) (s:=a0) (TK rfl) rfl rfl rfl rfl fun hL12=>?_;refine S BI (nil ?_);refine cE hE (fun hc13 hE=>?_) (fun hc13 hE=>?_)
    ·try dsimp only at hc13
     have hf13:=oD hc13;refine sk hK10 ?_;clear hK10 K10;refine seqK fun K14 hK14=>?_;refine block ?_;refine seqR (S Mv (S Mv ?_));obtain⟨x16,gx16,hE⟩:=bO hE;refine S (ix Z5.c s4_9 gx16) (S Ld ?_);refine Sl ?_;refine Sf ?_;refine nil ?_;refine seqR (S FL ?_);refine Sf ?_;refine AOps.relocal 0 _ rfl (fun j w cs hh hx=>nil_cell 9 2 hx rfl) ?_;refine nil ?_;refine region ?_;refine S Mv (S LL (S BV ?_))
     obtain⟨x18,gx18,hE⟩:=bO hE;refine SH (am Z5.c (TK rfl) rfl (TK rfl) (TK rfl) gx18) ?_;refine hq (H.set tk1 (some (.tok 10 x18.l.length))) ?_;refine S As (nil ?_);refine hK14 _ ?_;clear hK14 K14;refine region ?_;refine S Mv ?_;refine SI ?_;refine S As (nil ?_);exact hK7 _ (n7,x18,(s4_9+1)) wA hE (nS _)
    refine AWp.exit ?_;exact hK3 _ s3_8 wA hE
 rintro s3_4 hE;try dsimp only at hE
 unfold Z113_j3 at hE;refine seqR (S Mv (S As (nil ?_)));refine AWp.dropTok 2 rfl ?_;refine AWp.ret ?_;repeat (first|refine xBlock_ret ?_|refine xThen_ret ?_)
 obtain rfl:=oJ hE;refine retQ.retF H rfl ⟨rfl,rfl⟩ ?_
 first|exact Heap.sub_set htk1|(simp only [Heap.set_set]; exact Heap.sub_set htk1)
def Z112_j4  (y5_l1:TDoc):Option TDoc:=some y5_l1
def Z112_j15 (s4_9:Nat) (k_next_8:Nat->TDoc->Option TDoc) (y16_l1:TDoc):Option TDoc:=k_next_8 (s4_9+1) y16_l1
def Z112_j27 (a0:TDoc) (s4_9:Nat) (y10_l1:TDoc) (k_next_8:Nat->TDoc->Option TDoc) (y28_l2:TDef):Option TDoc:=(a0.FDefs.l[s4_9]?).bind fun x30=>(Z113 x30.FInputs).bind fun x31=>(appC 144 y10_l1.FDefs (⟨false,[(TDef.mk y28_l2.FKind y28_l2.FName y28_l2.FImplements y28_l2.FDirs y28_l2.FFields y28_l2.FMembers x31)]⟩:Sl TDef)).bind fun x32=>Z112_j15 s4_9 k_next_8 (TDoc.mk x32)
def Z112_l34 (a0:TDoc) (s4_9:Nat) (y10_l1:TDoc) (k_next_8:Nat->TDoc->Option TDoc):Nat->Nat->TDef->Option TDoc
 | 0,_,_=>none
 | n34+1,s8_35,y36_l2=>(a0.FDefs.l[s4_9]?).bind fun x39=>bif (decide (((s8_35:Nat):Int)<((x39.FMembers.l.length:Nat):Int))) then((a0.FDefs.l[s4_9]?).bind fun x43=>(x43.FMembers.l[s8_35]?).bind fun x44=>(appC 40 y36_l2.FMembers (⟨false,[(Z6.mk x44.FName (Sl.nil:Sl TDir))]⟩:Sl Z6)).bind fun x45=>(Z112_l34 a0 s4_9 y10_l1 k_next_8 n34) (s8_35+1) (TDef.mk y36_l2.FKind y36_l2.FName y36_l2.FImplements y36_l2.FDirs y36_l2.FFields x45 y36_l2.FInputs)) else(Z112_j27 a0 s4_9 y10_l1 k_next_8 y36_l2)
def Z112_j25 (a0:TDoc) (s4_9:Nat) (y10_l1:TDoc) (k_next_8:Nat->TDoc->Option TDoc) (y26_l2:TDef):Option TDoc:=Z112_l34 a0 s4_9 y10_l1 k_next_8 (Option.elim (a0.FDefs.l[s4_9]?) 1 (fun x39=>x39.FMembers.l.length+1)) 0 y26_l2
def Z112_l47 (a0:TDoc) (s4_9:Nat) (y10_l1:TDoc) (k_next_8:Nat->TDoc->Option TDoc):Nat->Nat->TDef->Option TDoc
 | 0,_,_=>none
 | n47+1,s6_48,y49_l2=>(a0.FDefs.l[s4_9]?).bind fun x52=>bif (decide (((s6_48:Nat):Int)<((x52.FFields.l.length:Nat):Int))) then((a0.FDefs.l[s4_9]?).bind fun x57=>(x57.FFields.l[s6_48]?).bind fun x58=>(Z113 x58.FArgs).bind fun x61=>(appC 104 y49_l2.FFields (⟨false,[(Z4.mk x58.FName x61 x58.FType (Sl.nil:Sl TDir))]⟩:Sl Z4)).bind fun x62=>(Z112_l47 a0 s4_9 y10_l1 k_next_8 n47) (s6_48+1) (TDef.mk y49_l2.FKind y49_l2.FName y49_l2.FImplements y49_l2.FDirs x62 y49_l2.FMembers y49_l2.FInputs)) else(Z112_j25 a0 s4_9 y10_l1 k_next_8 y49_l2)
def Z112_l8 (a0:TDoc) :Nat->Nat->TDoc->Option TDoc
 | 0,_,_=>none
 | n8+1,s4_9,y10_l1=>bif (decide (((s4_9:Nat):Int)<((a0.FDefs.l.length:Nat):Int))) then((a0.FDefs.l[s4_9]?).bind fun x18=>Z112_l47 a0 s4_9 y10_l1 ((Z112_l8 a0 n8)) (Option.elim (a0.FDefs.l[s4_9]?) 1 (fun x52=>x52.FFields.l.length+1)) 0 (TDef.mk x18.FKind x18.FName x18.FImplements (Sl.nil:Sl TDir) (Sl.nil:Sl Z4) (Sl.nil:Sl Z6) (Sl.nil:Sl Z5))) else(Z112_j4   y10_l1)
def Z112 (a0:TDoc):Option TDoc:=Z112_l8 a0 (a0.FDefs.l.length+1) 0 TDoc.zero
theorem Z112_walk {a0 r:TDoc}(hE:Z112 a0=some r) (H:Heap) :AC Tryz.prog 8 [.agg (TDoc.c a0)] H fun v h'=>v=.a (.agg (TDoc.c r))/\h'=H:=by
 unfold Z112 at hE;refine AC.oW 98 [.cell 2 24] Tryz.call8 Tryz.func8 ?_;refine seqR (S BX ?_);refine Sl ?_;refine nil ?_;refine seqR ?_;refine Sl ?_;refine AOps.tok 7 fun tk3_3 htk3_3=>?_;refine AOps.relocal 1 _ rfl (fun j w cs hh hx=>tok_cell 0 7 7 hh (t:=tk3_3) hpG hx rfl) ?_;refine nil ?_;refine seqJ (TA 2 (TA 3 kN)) (fun(z:TDoc)=>[]) (fun z=>[TDoc.c TDoc.zero,([Sl.d 7 TDef.c (some tk3_3) z.FDefs])]) (fun z=>(H.set tk3_3 (some (.tok 7 z.FDefs.l.length)))) (fun z=>Z112_j4 z=some r) ?_ ?_
 ·intro K4 hK4;refine seqR (S As (nil ?_));refine block ?_;refine loopO (TA 1 (TA 2 (TA 3 kN))) (fun(z:Nat×Nat×TDoc)=>[(4,.a (.d (.int .i64 ((z.2.1:Nat):Int))))]) (fun z=>[TDoc.c TDoc.zero,([Sl.d 7 TDef.c (some tk3_3) z.2.2.FDefs])]) (fun z=>(H.set tk3_3 (some (.tok 7 z.2.2.FDefs.l.length)))) (fun z=>z.1) (fun z=>Z112_l8 a0 z.1 z.2.1 z.2.2=some r) ((a0.FDefs.l.length+1),0,TDoc.zero) hE wA ?_
  rintro ⟨n8,s4_9,y10_l1⟩ hE K8 hK8;try dsimp only at hE
  cases n8 with
  | zero=>cases hE
  | succ n8 =>
    rw [Z112_l8] at hE;refine seqK fun K11 hK11=>?_;refine seqR (S Mv (S Fv (S Ld ?_)));refine sLen (f:=TDef.c) (s:=a0.FDefs) (TK rfl) rfl rfl rfl rfl fun hL13=>?_;refine S BI (nil ?_);refine cE hE (fun hc14 hE=>?_) (fun hc14 hE=>?_)
    ·try dsimp only at hc14
     have hf14:=oD hc14;refine sk hK11 ?_;clear hK11 K11;refine seqJ (TA 1 (TA 2 (TA 3 (TA 4 kN)))) (fun(z:TDoc)=>[]) (fun z=>[TDoc.c TDoc.zero,([Sl.d 7 TDef.c (some tk3_3) z.FDefs])]) (fun z=>(H.set tk3_3 (some (.tok 7 z.FDefs.l.length)))) (fun z=>Z112_j15 s4_9 ((Z112_l8 a0 n8)) z=some r) ?_ ?_
     ·intro K15 hK15;refine block ?_;refine seqR (S Fv (S Ld (S Mv ?_)));obtain⟨x18,gx18,hE⟩:=bO hE;refine S (ix TDef.c s4_9 gx18) (S Ld ?_);refine Sl ?_;refine Sf ?_;refine nil ?_;refine seqR (S FL ?_);refine Sf ?_;refine AOps.relocal 2 _ rfl (fun j w cs hh hx=>nil_cell 3 2 hx rfl) ?_;refine nil ?_;refine seqR (S FL ?_);refine Sf ?_;refine AOps.relocal 2 _ rfl (fun j w cs hh hx=>nil_cell 4 5 hx rfl) ?_
      refine nil ?_;refine AWp.tok 5 fun tk5_21 htk5_21=>?_;obtain⟨ne_tk5_21_tk3_3,htk5_21⟩:=Heap.set_fresh htk5_21;refine AWp.relocal 2 _ rfl (fun j w cs hh hx=>tok_cell 4 5 5 hh (t:=tk5_21) hpG hx rfl) ?_;refine seqR (S FL ?_);refine Sf ?_;refine AOps.relocal 2 _ rfl (fun j w cs hh hx=>nil_cell 5 2 hx rfl) ?_;refine nil ?_;refine AWp.tok 2 fun tk5_23 htk5_23=>?_;obtain⟨ne_tk5_23_tk5_21,htk5_23⟩:=Heap.set_fresh htk5_23
      obtain⟨ne_tk5_23_tk3_3,htk5_23⟩:=Heap.set_fresh htk5_23;refine AWp.relocal 2 _ rfl (fun j w cs hh hx=>tok_cell 5 2 2 hh (t:=tk5_23) hpG hx rfl) ?_;refine seqR (S FL ?_);refine Sf ?_;refine AOps.relocal 2 _ rfl (fun j w cs hh hx=>nil_cell 6 10 hx rfl) ?_;refine nil ?_;refine seqJ (TA 1 (TA 2 (TA 3 (TA 4 (TA 5 kN))))) (fun(z:TDef)=>[]) (fun z=>[TDoc.c TDoc.zero,([Sl.d 7 TDef.c (some tk3_3) y10_l1.FDefs]),((intE .i64) z.FKind++strE z.FName++(fun s=>[Sl.d 1 strE none s]) z.FImplements++(fun s=>[Sl.d 2 TDir.c none s]) z.FDirs++[Sl.d 5 Z4.c (some tk5_21) z.FFields]++[Sl.d 2 Z6.c (some tk5_23) z.FMembers]++(fun s=>[Sl.d 10 Z5.c none s]) z.FInputs)]) (fun z=>(((H.set tk3_3 (some (.tok 7 y10_l1.FDefs.l.length))).set tk5_21 (some (.tok 5 z.FFields.l.length))).set tk5_23 (some (.tok 2 z.FMembers.l.length)))) (fun z=>Z112_j25 a0 s4_9 y10_l1 ((Z112_l8 a0 n8)) z=some r) ?_ ?_
      ·intro K25 hK25;refine seqR (S As (nil ?_));refine block ?_;refine loopO (TA 1 (TA 2 (TA 3 (TA 4 (TA 5 kN))))) (fun(z:Nat×Nat×TDef)=>[(6,.a (.d (.int .i64 ((z.2.1:Nat):Int))))]) (fun z=>[TDoc.c TDoc.zero,([Sl.d 7 TDef.c (some tk3_3) y10_l1.FDefs]),((intE .i64) z.2.2.FKind++strE z.2.2.FName++(fun s=>[Sl.d 1 strE none s]) z.2.2.FImplements++(fun s=>[Sl.d 2 TDir.c none s]) z.2.2.FDirs++[Sl.d 5 Z4.c (some tk5_21) z.2.2.FFields]++[Sl.d 2 Z6.c (some tk5_23) z.2.2.FMembers]++(fun s=>[Sl.d 10 Z5.c none s]) z.2.2.FInputs)]) (fun z=>(((H.set tk3_3 (some (.tok 7 y10_l1.FDefs.l.length))).set tk5_21 (some (.tok 5 z.2.2.FFields.l.length))).set tk5_23 (some (.tok 2 z.2.2.FMembers.l.length)))) (fun z=>z.1) (fun z=>Z112_l47 a0 s4_9 y10_l1 ((Z112_l8 a0 n8)) z.1 z.2.1 z.2.2=some r) ((Option.elim (a0.FDefs.l[s4_9]?) 1 (fun x52=>x52.FFields.l.length+1)),0,(TDef.mk x18.FKind x18.FName x18.FImplements (Sl.nil:Sl TDir) (Sl.nil:Sl Z4) (Sl.nil:Sl Z6) (Sl.nil:Sl Z5))) hE wA ?_
       rintro ⟨n47,s6_48,y49_l2⟩ hE K47 hK47;try dsimp only at hE
       cases n47 with
       | zero=>cases hE
       | succ n47 =>
         rw [Z112_l47] at hE;refine seqK fun K50 hK50=>?_;refine seqR (S Mv (S Fv (S Ld (S Mv ?_))));obtain⟨x52,gx52,hE⟩:=bO hE;refine S (ix TDef.c s4_9 gx52) (S Fv (S Ld ?_));refine sLen (f:=Z4.c) (s:=x52.FFields) (TK rfl) rfl rfl rfl rfl fun hL53=>?_;refine S BI (nil ?_);refine cE hE (fun hc54 hE=>?_) (fun hc54 hE=>?_)
         ·try dsimp only at hc54
          have hf54:=oD hc54;refine sk hK50 ?_;clear hK50 K50;refine seqK fun K55 hK55=>?_;refine block ?_;refine seqR (S Fv (S Ld (S Mv ?_)));obtain⟨x57,gx57,hE⟩:=bO hE;refine S (ix TDef.c s4_9 gx57) (S Fv (S Ld (S Mv ?_)));obtain⟨x58,gx58,hE⟩:=bO hE;refine S (ix Z4.c s6_48 gx58) (S Ld ?_);refine Sl ?_;refine Sf ?_;refine nil ?_;refine seqR (S FL ?_);refine Sf ?_;refine AOps.relocal 3 _ rfl (fun j w cs hh hx=>nil_cell 4 2 hx rfl) ?_
          refine nil ?_;refine seqR (S FL (S LL ?_));obtain⟨x61,gx61,hE⟩:=bO hE;refine Sc rfl rfl (Z113_walk gx61) ?_;refine S FL ?_;refine Sf ?_;refine nil ?_;refine region ?_;refine S FL (S LL (S LL (S BV ?_)));obtain⟨x62,gx62,hE⟩:=bO hE;refine SH (am Z4.c (TK rfl) rfl (TK rfl) (TK rfl) gx62) ?_;refine hq (((H.set tk3_3 (some (.tok 7 y10_l1.FDefs.l.length))).set tk5_21 (some (.tok 5 x62.l.length))).set tk5_23 (some (.tok 2 y49_l2.FMembers.l.length))) ?_
          refine S FL ?_;refine Sf ?_;refine nil ?_;refine hK55 _ ?_;clear hK55 K55;refine region ?_;refine S Mv ?_;refine SI ?_;refine S As (nil ?_);exact hK47 _ (n47,(s6_48+1),(TDef.mk y49_l2.FKind y49_l2.FName y49_l2.FImplements y49_l2.FDirs x62 y49_l2.FMembers y49_l2.FInputs)) wA hE (nS _)
         refine AWp.exit ?_;exact hK25 _ y49_l2 wA hE
      rintro y26_l2 hE;try dsimp only at hE
      unfold Z112_j25 at hE;refine seqJ (TA 1 (TA 2 (TA 3 (TA 4 (TA 5 kN))))) (fun(z:TDef)=>[]) (fun z=>[TDoc.c TDoc.zero,([Sl.d 7 TDef.c (some tk3_3) y10_l1.FDefs]),((intE .i64) z.FKind++strE z.FName++(fun s=>[Sl.d 1 strE none s]) z.FImplements++(fun s=>[Sl.d 2 TDir.c none s]) z.FDirs++[Sl.d 5 Z4.c (some tk5_21) z.FFields]++[Sl.d 2 Z6.c (some tk5_23) z.FMembers]++(fun s=>[Sl.d 10 Z5.c none s]) z.FInputs)]) (fun z=>(((H.set tk3_3 (some (.tok 7 y10_l1.FDefs.l.length))).set tk5_21 (some (.tok 5 z.FFields.l.length))).set tk5_23 (some (.tok 2 z.FMembers.l.length)))) (fun z=>Z112_j27 a0 s4_9 y10_l1 ((Z112_l8 a0 n8)) z=some r) ?_ ?_
      ·intro K27 hK27;refine seqR (S As (nil ?_));refine block ?_;refine loopO (TA 1 (TA 2 (TA 3 (TA 4 (TA 5 kN))))) (fun(z:Nat×Nat×TDef)=>[(8,.a (.d (.int .i64 ((z.2.1:Nat):Int))))]) (fun z=>[TDoc.c TDoc.zero,([Sl.d 7 TDef.c (some tk3_3) y10_l1.FDefs]),((intE .i64) z.2.2.FKind++strE z.2.2.FName++(fun s=>[Sl.d 1 strE none s]) z.2.2.FImplements++(fun s=>[Sl.d 2 TDir.c none s]) z.2.2.FDirs++[Sl.d 5 Z4.c (some tk5_21) z.2.2.FFields]++[Sl.d 2 Z6.c (some tk5_23) z.2.2.FMembers]++(fun s=>[Sl.d 10 Z5.c none s]) z.2.2.FInputs)]) (fun z=>(((H.set tk3_3 (some (.tok 7 y10_l1.FDefs.l.length))).set tk5_21 (some (.tok 5 z.2.2.FFields.l.length))).set tk5_23 (some (.tok 2 z.2.2.FMembers.l.length)))) (fun z=>z.1) (fun z=>Z112_l34 a0 s4_9 y10_l1 ((Z112_l8 a0 n8)) z.1 z.2.1 z.2.2=some r) ((Option.elim (a0.FDefs.l[s4_9]?) 1 (fun x39=>x39.FMembers.l.length+1)),0,y26_l2) hE wA ?_
       rintro ⟨n34,s8_35,y36_l2⟩ hE K34 hK34;try dsimp only at hE
       cases n34 with
       | zero=>cases hE
       | succ n34 =>
         rw [Z112_l34] at hE;refine seqK fun K37 hK37=>?_;refine seqR (S Mv (S Fv (S Ld (S Mv ?_))));obtain⟨x39,gx39,hE⟩:=bO hE;refine S (ix TDef.c s4_9 gx39) (S Fv (S Ld ?_));refine sLen (f:=Z6.c) (s:=x39.FMembers) (TK rfl) rfl rfl rfl rfl fun hL40=>?_;refine S BI (nil ?_);refine cE hE (fun hc41 hE=>?_) (fun hc41 hE=>?_)
         ·try dsimp only at hc41
          have hf41:=oD hc41;refine sk hK37 ?_;clear hK37 K37;refine seqK fun K42 hK42=>?_;refine block ?_;refine AWp.draw rfl ?_;refine Sd FL (Sd LL (Sd Fv (Sd Ld (Sd Mv ?_))));obtain⟨x43,gx43,hE⟩:=bO hE;refine Sd (ix TDef.c s4_9 gx43) (Sd Fv (Sd Ld (Sd Mv ?_)));obtain⟨x44,gx44,hE⟩:=bO hE;refine Sd (ix Z6.c s8_35 gx44) (Sd Fv (Sd Ld (Sd BU (Sd BV ?_))));obtain⟨x45,gx45,hE⟩:=bO hE;refine DOps.sH (appM (f:=Z6.c) (TK rfl) rfl (TK rfl) (TK rfl) ⟨_,rfl⟩ rfl rfl (by decide) rfl rfl rfl rfl hpG rfl gx45) rfl ?_
          refine DOps.Dh (((H.set tk3_3 (some (.tok 7 y10_l1.FDefs.l.length))).set tk5_21 (some (.tok 5 y36_l2.FFields.l.length))).set tk5_23 (some (.tok 2 x45.l.length))) ?_;refine Sd FL ?_;refine DOps.sLn (storeL1 (TK rfl) rfl rfl rfl rfl (by repeat (first|exact SetAt.zero|apply SetAt.succ)) (by repeat (first|exact SetAt.zero|apply SetAt.succ))) ?_;refine DOps.nil (by decide +kernel) ?_;refine hK42 _ ?_
          clear hK42 K42;refine region ?_;refine S Mv ?_;refine SI ?_;refine S As (nil ?_);exact hK34 _ (n34,(s8_35+1),(TDef.mk y36_l2.FKind y36_l2.FName y36_l2.FImplements y36_l2.FDirs y36_l2.FFields x45 y36_l2.FInputs)) wA hE (nS _)
         refine AWp.exit ?_;exact hK27 _ y36_l2 wA hE
      rintro y28_l2 hE;try dsimp only at hE
      unfold Z112_j27 at hE;refine seqR (S Fv (S Ld (S Mv ?_)));obtain⟨x30,gx30,hE⟩:=bO hE;refine S (ix TDef.c s4_9 gx30) (S Fv (S Ld ?_));obtain⟨x31,gx31,hE⟩:=bO hE;refine Sc rfl rfl (Z113_walk gx31) ?_;refine S FL ?_;refine Sf ?_;refine nil ?_;refine AWp.relocal 2 _ rfl (fun j w cs hh hx=>untok_cell 4 hx rfl) ?_;refine AWp.relocal 2 _ rfl (fun j w cs hh hx=>untok_cell 5 hx rfl) ?_;refine region ?_
      refine S FL (S LL (S LL (S BV ?_)));obtain⟨x32,gx32,hE⟩:=bO hE;refine SH (am TDef.c (TK rfl) rfl (TK rfl) (TK rfl) gx32) ?_;refine hq (((H.set tk3_3 (some (.tok 7 x32.l.length))).set tk5_21 (some (.tok 5 y28_l2.FFields.l.length))).set tk5_23 (some (.tok 2 y28_l2.FMembers.l.length))) ?_;refine S FL ?_;refine Sf ?_;refine nil ?_;exact hK15 _ (TDoc.mk x32) (Weak.toFA (by(intro id_ o_ he_); (have e_tk5_21:id_≠tk5_21:=fun e_=>by rw [e_] at he_; simp [Heap.set,htk5_21,ne_tk5_21_tk3_3] at he_); (have e_tk5_23:id_≠tk5_23:=fun e_=>by rw [e_] at he_; simp [Heap.set,htk5_23,ne_tk5_23_tk3_3] at he_); (rw [<- he_]); (simp only [Heap.set,if_neg e_tk5_21,if_neg e_tk5_23]); (first|done|rfl))) hE
     rintro y16_l1 hE;try dsimp only at hE
     unfold Z112_j15 at hE;refine region ?_;refine S Mv ?_;refine SI ?_;refine S As (nil ?_);exact hK8 _ (n8,(s4_9+1),y16_l1) wA hE (nS _)
    refine AWp.exit ?_;exact hK4 _ y10_l1 wA hE
 rintro y5_l1 hE;try dsimp only at hE
 unfold Z112_j4 at hE;refine seqK fun K6 hK6=>?_;refine AWp.relocal 1 _ rfl (fun j w cs hh hx=>untok_cell 0 hx rfl) ?_;refine region ?_;refine S LL ?_;refine Sf ?_;refine nil ?_;refine hK6 _ ?_;clear hK6 K6;refine AWp.ret ?_;repeat (first|refine xBlock_ret ?_|refine xThen_ret ?_)
 obtain rfl:=oJ hE;refine retQ.retF H rfl ⟨rfl,rfl⟩ ?_
 first|exact Heap.sub_set htk3_3|(simp only [Heap.set_set]; exact Heap.sub_set htk3_3)
section
variable [IsLoud lou]
def Z30 (a0:TDoc) (a1:TDoc):Option Bool:=(Z32 a0).bind fun x4=>guardO (!(!x4)) (Z32 a1) false fun x5=>bif ((!x4)||(!x5)) then((Z31 ).bind fun x8=>some x8) else((Z112 a0).bind fun x10=>(Z73 x10).bind fun x11=>(Z112 a1).bind fun x12=>(Z73 x12).bind fun x13=>(Z70 x11 x13).bind fun x14=>(Z10 a0 a0).bind fun x16=>guardO ((decide (((x16.l.length:Nat):Int)=(0:Int)))) (Z10 a0 a1) (Sl.nil:Sl Z2) fun x18=>guardO (((decide (((x16.l.length:Nat):Int)=(0:Int)))&&(((decide (((x18.l.length:Nat):Int)=(0:Int)))==x14)))) (Z31 ) false fun x19=>some (((decide (((x16.l.length:Nat):Int)=(0:Int)))&&(((decide (((x18.l.length:Nat):Int)=(0:Int)))==x14)))&&x19))
theorem Z30_walk {a0 a1:TDoc}{oT:Ab.Obj}{gT:Nat}{r:Bool}(hE:Z30 a0 a1=some r) (H:Heap) (hgT:H gT=some oT) (hoT:IsTab Tryz.prog oT):AC Tryz.prog 3 [.agg (TDoc.c a0),.agg (TDoc.c a1)] H fun v h'=>v=.a (.d (.bool r))/\h'=H:=by
 unfold Z30 at hE;refine AC.oW 39 [.tmp 4] Tryz.call3 Tryz.func3 ?_;refine seqR (S BX (S BX (S As (nil ?_))));refine seqK fun K2 hK2=>?_;refine seqR (S Ld ?_);obtain⟨x4,gx4,hE⟩:=bO hE;refine Sc rfl rfl (Z32_walk gx4) ?_;refine S NB (S Mv (G0 Ld ?_));obtain⟨x5,gx5,hE⟩:=gO hE;refine Gc1 10 rfl rfl rfl rfl rfl (fun hC=>Z32_walk (gx5 hC)) ?_;refine G1 11 rfl NB ?_;refine S PO (nil ?_);refine cE hE (fun hc6 hE=>?_) (fun hc6 hE=>?_)
 ·refine seqR ?_;obtain⟨x8,gx8,hE⟩:=bO hE;refine s0 (callR rfl rfl (Z31_walk (gT:=gT) (oT:=oT) gx8 _ hpG (by assumption))) rfl ?_;refine S As (nil ?_);exact rt hE
 refine sk hK2 ?_;clear hK2 K2;refine AWp.seqD (Sd Ld ?_);obtain⟨x10,gx10,hE⟩:=bO hE;refine Scd rfl rfl (Z112_walk gx10) ?_;obtain⟨x11,gx11,hE⟩:=bO hE;refine Scd rfl rfl (Z73_walk gx11) ?_;refine Sd Ld ?_;obtain⟨x12,gx12,hE⟩:=bO hE;refine Scd rfl rfl (Z112_walk gx12) ?_;obtain⟨x13,gx13,hE⟩:=bO hE;refine Scd rfl rfl (Z73_walk gx13) ?_;obtain⟨x14,gx14,hE⟩:=bO hE;refine Scd rfl rfl (Z70_walk gx14) ?_
 refine Sd As ?_;refine DOps.nil (by decide +kernel) ?_;refine seqR (S Ld (S Ld ?_));obtain⟨x16,gx16,hE⟩:=bO hE;refine s0 (callR rfl rfl (Z10_walk (gT:=gT) (oT:=oT) gx16 _ hpG (by assumption))) rfl ?_;refine sLen (f:=Z2.c) (s:=x16) (TK rfl) rfl rfl rfl rfl fun hL17=>?_;refine S BI (S Mv (G0 Ld (G0 Ld ?_)));obtain⟨x18,gx18,hE⟩:=gO hE;refine gC rfl rfl (fun hC=>ungdA (k:=28) rfl (ungdA (k:=29) rfl (callR rfl rfl (Z10_walk (gT:=gT) (oT:=oT) (gx18 hC) _ hpG (by assumption))))) rfl ?_
 refine gC rfl rfl (fun hC=>ungdA (k:=30) rfl (lenM' (f:=Z2.c) (s:=x18) (TK rfl) rfl rfl rfl)) rfl ?_;refine G1 31 rfl BI ?_;refine G0 Mv ?_;refine gC rfl rfl (fun hC=>ungdA (k:=32) rfl (ungdA (k:=33) rfl (eqB (TK rfl) rfl rfl rfl))) rfl ?_;refine S PA (S Mv ?_);obtain⟨x19,gx19,hE⟩:=gO hE;refine gC rfl rfl (fun hC=>callR rfl rfl (Z31_walk (gT:=gT) (oT:=oT) (gx19 hC) _ hpG (by assumption))) rfl ?_;refine S PA (S As (nil ?_))
 exact rt hE
end
end Go.Proofs

namespace Go.Proofs
open Go Go.Ab
def Z50_q23 (a1:Int):List Bs->Int->Option (Int)
 | [],s5_24=>some s5_24
 | h23::r23,s5_24=>bif (decide (s5_24<=a1)) then((addC s5_24 (1:Int)).bind fun x31=>on (h23) fun x32=>(addC x31 ((x32.length:Nat):Int)).bind fun x34=>Z50_q23 a1 (r23) x34) else(some s5_24)
theorem Z50_l23_qe {a0:Z7}{a1:Int}{k_rec_55:Z7->Int->Option Int}  (Kb23:(Int)->Option Int) (hend:∀(n23:Nat) (s5_24:Int) (s6_25:Nat),Z50_j5 a0 a1 k_rec_55 s5_24=Kb23 s5_24):∀(n23:Nat) (s5_24:Int) (s6_25:Nat),(0<n23/\a0.FKeys.l.length<s6_25+n23)->Z50_l23 a0 a1 k_rec_55 n23 s5_24 s6_25=Option.bind (Z50_q23 a1 (a0.FKeys.l.drop s6_25) s5_24) Kb23:=by
 intro n23;induction n23 with
 | zero=>intro s5_24 s6_25 hn; exact absurd hn.1 (by omega)
 | succ n23 ih23 =>
  intro s5_24 s6_25 hn;rw [Z50_l23];by_cases hlt:s6_25<a0.FKeys.l.length
  ·obtain⟨h23,hh23⟩:=Qa hlt;rw [Q.drop_of hh23,Z50_q23];refine Q.condAT (Q.ltT hlt) ?_;refine Q.condO ?_ ?_
   ·refine Q.bindO rfl fun x31=>?_;refine Q.bindPO hh23 fun x32 hx_x32=>?_;refine Q.bindO rfl fun x34=>?_;all_goals exact ih23 _ _ ⟨by omega,by omega⟩
   all_goals exact hend n23 s5_24 s6_25
  rw [dL (by omega),Z50_q23];refine Q.condAF (Q.ltF hlt) ?_;exact hend n23 s5_24 s6_25
def Z50_q11 (a1:Int) (k_rec_55:Z7->Int->Option Int):List Z7->Int->Option (Int)
 | [],s5_12=>some s5_12
 | h11::r11,s5_12=>bif (decide (s5_12<=a1)) then(on (h11) fun x19=>(k_rec_55 x19 a1).bind fun x20=>(addC s5_12 x20).bind fun x21=>Z50_q11 a1 k_rec_55 (r11) x21) else(some s5_12)
theorem Z50_l11_qe {a0:Z7}{a1:Int}{k_rec_55:Z7->Int->Option Int}  (Kb11:(Int)->Option Int) (hend:∀(n11:Nat) (s5_12:Int) (s7_13:Nat),Z50_j7   s5_12=Kb11 s5_12):∀(n11:Nat) (s5_12:Int) (s7_13:Nat),(0<n11/\a0.FItems.l.length<s7_13+n11)->Z50_l11 a0 a1 k_rec_55 n11 s5_12 s7_13=Option.bind (Z50_q11 a1 k_rec_55 (a0.FItems.l.drop s7_13) s5_12) Kb11:=by
 intro n11;induction n11 with
 | zero=>intro s5_12 s7_13 hn; exact absurd hn.1 (by omega)
 | succ n11 ih11 =>
  intro s5_12 s7_13 hn;rw [Z50_l11];by_cases hlt:s7_13<a0.FItems.l.length
  ·obtain⟨h11,hh11⟩:=Qa hlt;rw [Q.drop_of hh11,Z50_q11];refine Q.condAT (Q.ltT hlt) ?_;refine Q.condO ?_ ?_
   ·refine Q.bindPO hh11 fun x19 hx_x19=>?_;refine Q.bindO rfl fun x20=>?_;refine Q.bindO rfl fun x21=>?_;all_goals exact ih11 _ _ ⟨by omega,by omega⟩
   all_goals exact hend n11 s5_12 s7_13
  rw [dL (by omega),Z50_q11];refine Q.condAF (Q.ltF hlt) ?_;exact hend n11 s5_12 s7_13
def Z50_qn:Nat->Z7->Int->Option Int
 | 0,_,_=>none
 | n+1,a0,a1=>(addC (1:Int) ((a0.FText.length:Nat):Int)).bind fun x4=>Option.bind (Z50_q23 a1 a0.FKeys.l x4) fun s5_24=>on (s5_24) fun s5_6=>Option.bind (Z50_q11 a1 (Z50_qn n) a0.FItems.l s5_6) fun s5_12=>on (s5_12) fun s5_8=>some s5_8
theorem Z50_qall:∀n:Nat,Z50_n n=Z50_qn n:=by
 intro n;induction n with
 | zero=>exact(by funext a0 a1; first|rfl|(rw [Z50_n,Z50_qn]))
 | succ n ih =>
  funext a0 a1
  refine Qs ?_;rw [Z50_n,Z50_qn];try rw [ih]
  refine Q.bindO rfl fun x4=>?_;refine Q.wrapOO fun Kb23 hKb23=>?_;refine Z50_l23_qe  Kb23 ?_ _ _ _ ⟨Nat.succ_pos _,by omega⟩;intro n23 s5_24 s6_25;refine Qe (hKb23 _) ?_;refine Q.wrapPO fun Kj5 hKj5=>?_;have hj5:∀(s5_6:Int),Z50_j5 a0 a1 (Z50_qn n) s5_6=Kj5 s5_6:=by
   intro s5_6;refine Qe (hKj5 _) ?_;unfold Z50_j5;refine Q.wrapOO fun Kb11 hKb11=>?_;refine Z50_l11_qe  Kb11 ?_ _ _ _ ⟨Nat.succ_pos _,by omega⟩;intro n11 s5_12 s7_13;refine Qe (hKb11 _) ?_;refine Q.wrapPO fun Kj7 hKj7=>?_;have hj7:∀(s5_8:Int),Z50_j7  s5_8=Kj7 s5_8:=by
    intro s5_8;refine Qe (hKj7 _) ?_;unfold Z50_j7;all_goals rfl
   all_goals exact hj7 _
  all_goals exact hj5 _
def Z50_q (a0:Z7) (a1:Int):Option Int:=Z50_qn F0 a0 a1
theorem Z50_eq (a0:Z7) (a1:Int):Z50 a0 a1=Z50_q a0 a1:=by
 unfold Z50 Z50_q; rw [(Z50_qall F0)]
def Z68_q19 (a1:Int) (h7:TDir):List TArg->Int->Option (Int)
 | [],s5_20=>some s5_20
 | h19::r19,s5_20=>bif (decide (s5_20<=a1)) then((addC s5_20 (1:Int)).bind fun x28=>on (h7) fun x29=>on (h19) fun x30=>(Z50_q x30.FValue a1).bind fun x31=>(addC x28 x31).bind fun x32=>Z68_q19 a1 h7 (r19) x32) else(some s5_20)
theorem Z68_l19_qe {a0:(Sl TDir)}{a1:Int}{s6_9:Nat}{k_next_7:Int->Nat->Option Int}{h7:TDir}(hh7:a0.l[s6_9]?=some h7) (Kb19:(Int)->Option Int) (hend:∀(n19:Nat) (s5_20:Int) (s7_21:Nat),Z68_j14 s6_9 k_next_7 s5_20=Kb19 s5_20):∀(n19:Nat) (s5_20:Int) (s7_21:Nat),(0<n19/\h7.FArgs.l.length<s7_21+n19)->Z68_l19 a0 a1 s6_9 k_next_7 n19 s5_20 s7_21=Option.bind (Z68_q19 a1 h7 (h7.FArgs.l.drop s7_21) s5_20) Kb19:=by
 intro n19;induction n19 with
 | zero=>intro s5_20 s7_21 hn; exact absurd hn.1 (by omega)
 | succ n19 ih19 =>
  intro s5_20 s7_21 hn;rw [Z68_l19];refine Q.preB hh7 fun x24 hx_x24=>?_;subst hx_x24;by_cases hlt:s7_21<x24.FArgs.l.length
  ·obtain⟨h19,hh19⟩:=Qa hlt;rw [Q.drop_of hh19,Z68_q19];refine Q.condAT (Q.ltT hlt) ?_;refine Q.condO ?_ ?_
   ·refine Q.bindO rfl fun x28=>?_;refine Q.bindPO hh7 fun x29 hx_x29=>?_;refine Q.bindPO (by first|exact hh19|(simp only [hx_x29]; exact hh19)|(simp only [hx_x29] at hh19 ⊢; exact hh19)) fun x30 hx_x30=>?_;refine Q.bindO (Z50_eq _ _) fun x31=>?_;refine Q.bindO rfl fun x32=>?_;all_goals exact ih19 _ _ ⟨by omega,by omega⟩
   all_goals exact hend n19 s5_20 s7_21
  rw [dL (by omega),Z68_q19];refine Q.condAF (Q.ltF hlt) ?_;exact hend n19 s5_20 s7_21
def Z68_q7 (a1:Int):List TDir->Int->Option (Int)
 | [],s5_8=>some s5_8
 | h7::r7,s5_8=>bif (decide (s5_8<=a1)) then((addC s5_8 (1:Int)).bind fun x17=>Option.bind (Z68_q19 a1 h7 h7.FArgs.l x17) fun s5_20=>on (s5_20) fun s5_15=>Z68_q7 a1 (r7) s5_15) else(some s5_8)
theorem Z68_l7_qe {a0:(Sl TDir)}{a1:Int}  (Kb7:(Int)->Option Int) (hend:∀(n7:Nat) (s5_8:Int) (s6_9:Nat),Z68_j3   s5_8=Kb7 s5_8):∀(n7:Nat) (s5_8:Int) (s6_9:Nat),(0<n7/\a0.l.length<s6_9+n7)->Z68_l7 a0 a1 n7 s5_8 s6_9=Option.bind (Z68_q7 a1 (a0.l.drop s6_9) s5_8) Kb7:=by
 intro n7;induction n7 with
 | zero=>intro s5_8 s6_9 hn; exact absurd hn.1 (by omega)
 | succ n7 ih7 =>
  intro s5_8 s6_9 hn;rw [Z68_l7];by_cases hlt:s6_9<a0.l.length
  ·obtain⟨h7,hh7⟩:=Qa hlt;rw [Q.drop_of hh7,Z68_q7];refine Q.condAT (Q.ltT hlt) ?_;refine Q.condO ?_ ?_
   ·refine Q.bindO rfl fun x17=>?_;refine Q.wrapOO fun Kb19 hKb19=>?_;refine Z68_l19_qe hh7 Kb19 ?_ _ _ _ ⟨by rw [hh7]; exact Nat.succ_pos _,by rw [hh7]; simp only [Option.elim]; omega⟩;intro n19 s5_20 s7_21;refine Qe (hKb19 _) ?_;refine Q.wrapPO fun Kj14 hKj14=>?_;have hj14:∀(s5_15:Int),Z68_j14 s6_9 (Z68_l7 a0 a1 n7) s5_15=Kj14 s5_15:=by
     intro s5_15;refine Qe (hKj14 _) ?_;unfold Z68_j14;all_goals exact ih7 _ _ ⟨by omega,by omega⟩
    all_goals exact hj14 _
   all_goals exact hend n7 s5_8 s6_9
  rw [dL (by omega),Z68_q7];refine Q.condAF (Q.ltF hlt) ?_;exact hend n7 s5_8 s6_9
def Z68_q (a0:(Sl TDir)) (a1:Int):Option Int:=Option.bind (Z68_q7 a1 a0.l (0:Int)) fun s5_8=>on (s5_8) fun s5_4=>some s5_4
theorem Z68_eq (a0:(Sl TDir)) (a1:Int):Z68 a0 a1=Z68_q a0 a1:=by
 unfold Z68 Z68_q;refine Qs ?_;refine Q.wrapOO fun Kb7 hKb7=>?_;refine Z68_l7_qe  Kb7 ?_ _ _ _ ⟨Nat.succ_pos _,by omega⟩;intro n7 s5_8 s6_9;refine Qe (hKb7 _) ?_;refine Q.wrapPO fun Kj3 hKj3=>?_;have hj3:∀(s5_4:Int),Z68_j3  s5_4=Kj3 s5_4:=by
  intro s5_4;refine Qe (hKj3 _) ?_;unfold Z68_j3;all_goals rfl
 all_goals exact hj3 _
def Z69_q7 (a1:Int):List Z5->Int->Option (Int)
 | [],s5_8=>some s5_8
 | h7::r7,s5_8=>bif (decide (s5_8<=a1)) then((addC s5_8 (1:Int)).bind fun x15=>on (h7) fun x16=>(addC x15 ((x16.FType.FWraps.l.length:Nat):Int)).bind fun x17=>on (h7) fun x18=>(Z50_q x18.FDefault a1).bind fun x19=>(addC x17 x19).bind fun x20=>on (h7) fun x21=>(Z68_q x21.FDirs a1).bind fun x22=>(addC x20 x22).bind fun x23=>Z69_q7 a1 (r7) x23) else(some s5_8)
theorem Z69_l7_qe {a0:(Sl Z5)}{a1:Int}  (Kb7:(Int)->Option Int) (hend:∀(n7:Nat) (s5_8:Int) (s6_9:Nat),Z69_j3   s5_8=Kb7 s5_8):∀(n7:Nat) (s5_8:Int) (s6_9:Nat),(0<n7/\a0.l.length<s6_9+n7)->Z69_l7 a0 a1 n7 s5_8 s6_9=Option.bind (Z69_q7 a1 (a0.l.drop s6_9) s5_8) Kb7:=by
 intro n7;induction n7 with
 | zero=>intro s5_8 s6_9 hn; exact absurd hn.1 (by omega)
 | succ n7 ih7 =>
  intro s5_8 s6_9 hn;rw [Z69_l7];by_cases hlt:s6_9<a0.l.length
  ·obtain⟨h7,hh7⟩:=Qa hlt;rw [Q.drop_of hh7,Z69_q7];refine Q.condAT (Q.ltT hlt) ?_;refine Q.condO ?_ ?_
   ·refine Q.bindO rfl fun x15=>?_;refine Q.bindPO hh7 fun x16 hx_x16=>?_;refine Q.bindO rfl fun x17=>?_;refine Q.bindPO hh7 fun x18 hx_x18=>?_;refine Q.bindO (Z50_eq _ _) fun x19=>?_;refine Q.bindO rfl fun x20=>?_;refine Q.bindPO hh7 fun x21 hx_x21=>?_;refine Q.bindO (Z68_eq _ _) fun x22=>?_;refine Q.bindO rfl fun x23=>?_;all_goals exact ih7 _ _ ⟨by omega,by omega⟩
   all_goals exact hend n7 s5_8 s6_9
  rw [dL (by omega),Z69_q7];refine Q.condAF (Q.ltF hlt) ?_;exact hend n7 s5_8 s6_9
def Z69_q (a0:(Sl Z5)) (a1:Int):Option Int:=Option.bind (Z69_q7 a1 a0.l (0:Int)) fun s5_8=>on (s5_8) fun s5_4=>some s5_4
theorem Z69_eq (a0:(Sl Z5)) (a1:Int):Z69 a0 a1=Z69_q a0 a1:=by
 unfold Z69 Z69_q;refine Qs ?_;refine Q.wrapOO fun Kb7 hKb7=>?_;refine Z69_l7_qe  Kb7 ?_ _ _ _ ⟨Nat.succ_pos _,by omega⟩;intro n7 s5_8 s6_9;refine Qe (hKb7 _) ?_;refine Q.wrapPO fun Kj3 hKj3=>?_;have hj3:∀(s5_4:Int),Z69_j3  s5_4=Kj3 s5_4:=by
  intro s5_4;refine Qe (hKj3 _) ?_;unfold Z69_j3;all_goals rfl
 all_goals exact hj3 _
def Z60_q41 (a1:Int):List Z4->Int->Option (Int)
 | [],s5_42=>some s5_42
 | h41::r41,s5_42=>bif (decide (s5_42<=a1)) then((addC s5_42 (1:Int)).bind fun x49=>on (h41) fun x50=>(addC x49 ((x50.FType.FWraps.l.length:Nat):Int)).bind fun x51=>on (h41) fun x52=>(Z69_q x52.FArgs a1).bind fun x53=>(addC x51 x53).bind fun x54=>on (h41) fun x55=>(Z68_q x55.FDirs a1).bind fun x56=>(addC x54 x56).bind fun x57=>Z60_q41 a1 (r41) x57) else(some s5_42)
theorem Z60_l41_qe {a1:Int}{s6_10:Nat}{x18:TDef}{k_next_8:Int->Nat->Option Int}  (Kb41:(Int)->Option Int) (hend:∀(n41:Nat) (s5_42:Int) (s8_43:Nat),Z60_j25 a1 s6_10 x18 k_next_8 s5_42=Kb41 s5_42):∀(n41:Nat) (s5_42:Int) (s8_43:Nat),(0<n41/\x18.FFields.l.length<s8_43+n41)->Z60_l41 a1 s6_10 x18 k_next_8 n41 s5_42 s8_43=Option.bind (Z60_q41 a1 (x18.FFields.l.drop s8_43) s5_42) Kb41:=by
 intro n41;induction n41 with
 | zero=>intro s5_42 s8_43 hn; exact absurd hn.1 (by omega)
 | succ n41 ih41 =>
  intro s5_42 s8_43 hn;rw [Z60_l41];by_cases hlt:s8_43<x18.FFields.l.length
  ·obtain⟨h41,hh41⟩:=Qa hlt;rw [Q.drop_of hh41,Z60_q41];refine Q.condAT (Q.ltT hlt) ?_;refine Q.condO ?_ ?_
   ·refine Q.bindO rfl fun x49=>?_;refine Q.bindPO hh41 fun x50 hx_x50=>?_;refine Q.bindO rfl fun x51=>?_;refine Q.bindPO hh41 fun x52 hx_x52=>?_;refine Q.bindO (Z69_eq _ _) fun x53=>?_;refine Q.bindO rfl fun x54=>?_;refine Q.bindPO hh41 fun x55 hx_x55=>?_;refine Q.bindO (Z68_eq _ _) fun x56=>?_;refine Q.bindO rfl fun x57=>?_;all_goals exact ih41 _ _ ⟨by omega,by omega⟩
   all_goals exact hend n41 s5_42 s8_43
  rw [dL (by omega),Z60_q41];refine Q.condAF (Q.ltF hlt) ?_;exact hend n41 s5_42 s8_43
def Z60_q28 (a1:Int):List Z6->Int->Option (Int)
 | [],s5_29=>some s5_29
 | h28::r28,s5_29=>bif (decide (s5_29<=a1)) then((addC s5_29 (1:Int)).bind fun x36=>on (h28) fun x37=>(Z68_q x37.FDirs a1).bind fun x38=>(addC x36 x38).bind fun x39=>Z60_q28 a1 (r28) x39) else(some s5_29)
theorem Z60_l28_qe {a1:Int}{s6_10:Nat}{x18:TDef}{k_next_8:Int->Nat->Option Int}  (Kb28:(Int)->Option Int) (hend:∀(n28:Nat) (s5_29:Int) (s9_30:Nat),Z60_j15 s6_10 k_next_8 s5_29=Kb28 s5_29):∀(n28:Nat) (s5_29:Int) (s9_30:Nat),(0<n28/\x18.FMembers.l.length<s9_30+n28)->Z60_l28 a1 s6_10 x18 k_next_8 n28 s5_29 s9_30=Option.bind (Z60_q28 a1 (x18.FMembers.l.drop s9_30) s5_29) Kb28:=by
 intro n28;induction n28 with
 | zero=>intro s5_29 s9_30 hn; exact absurd hn.1 (by omega)
 | succ n28 ih28 =>
  intro s5_29 s9_30 hn;rw [Z60_l28];by_cases hlt:s9_30<x18.FMembers.l.length
  ·obtain⟨h28,hh28⟩:=Qa hlt;rw [Q.drop_of hh28,Z60_q28];refine Q.condAT (Q.ltT hlt) ?_;refine Q.condO ?_ ?_
   ·refine Q.bindO rfl fun x36=>?_;refine Q.bindPO hh28 fun x37 hx_x37=>?_;refine Q.bindO (Z68_eq _ _) fun x38=>?_;refine Q.bindO rfl fun x39=>?_;all_goals exact ih28 _ _ ⟨by omega,by omega⟩
   all_goals exact hend n28 s5_29 s9_30
  rw [dL (by omega),Z60_q28];refine Q.condAF (Q.ltF hlt) ?_;exact hend n28 s5_29 s9_30
def Z60_q8 (a1:Int):List TDef->Int->Option (Int)
 | [],s5_9=>some s5_9
 | h8::r8,s5_9=>bif (decide (s5_9<=a1)) then(on (h8) fun x18=>(addC s5_9 ((x18.FImplements.l.length:Nat):Int)).bind fun x20=>(Z68_q x18.FDirs a1).bind fun x21=>(addC x20 x21).bind fun x22=>(Z69_q x18.FInputs a1).bind fun x23=>(addC x22 x23).bind fun x24=>Option.bind (Z60_q41 a1 x18.FFields.l x24) fun s5_42=>on (s5_42) fun s5_26=>Option.bind (Z60_q28 a1 x18.FMembers.l s5_26) fun s5_29=>on (s5_29) fun s5_16=>Z60_q8 a1 (r8) s5_16) else(some s5_9)
theorem Z60_l8_qe {a0:TDoc}{a1:Int}  (Kb8:(Int)->Option Int) (hend:∀(n8:Nat) (s5_9:Int) (s6_10:Nat),Z60_j4   s5_9=Kb8 s5_9):∀(n8:Nat) (s5_9:Int) (s6_10:Nat),(0<n8/\a0.FDefs.l.length<s6_10+n8)->Z60_l8 a0 a1 n8 s5_9 s6_10=Option.bind (Z60_q8 a1 (a0.FDefs.l.drop s6_10) s5_9) Kb8:=by
 intro n8;induction n8 with
 | zero=>intro s5_9 s6_10 hn; exact absurd hn.1 (by omega)
 | succ n8 ih8 =>
  intro s5_9 s6_10 hn;rw [Z60_l8];by_cases hlt:s6_10<a0.FDefs.l.length
  ·obtain⟨h8,hh8⟩:=Qa hlt;rw [Q.drop_of hh8,Z60_q8];refine Q.condAT (Q.ltT hlt) ?_;refine Q.condO ?_ ?_
   ·refine Q.bindPO hh8 fun x18 hx_x18=>?_;refine Q.bindO rfl fun x20=>?_;refine Q.bindO (Z68_eq _ _) fun x21=>?_;refine Q.bindO rfl fun x22=>?_;refine Q.bindO (Z69_eq _ _) fun x23=>?_;refine Q.bindO rfl fun x24=>?_;refine Q.wrapOO fun Kb41 hKb41=>?_;refine Z60_l41_qe  Kb41 ?_ _ _ _ ⟨Nat.succ_pos _,by omega⟩;intro n41 s5_42 s8_43;refine Qe (hKb41 _) ?_;refine Q.wrapPO fun Kj25 hKj25=>?_;have hj25:∀(s5_26:Int),Z60_j25 a1 s6_10 x18 (Z60_l8 a0 a1 n8) s5_26=Kj25 s5_26:=by
     intro s5_26;refine Qe (hKj25 _) ?_;unfold Z60_j25;refine Q.wrapOO fun Kb28 hKb28=>?_;refine Z60_l28_qe  Kb28 ?_ _ _ _ ⟨Nat.succ_pos _,by omega⟩;intro n28 s5_29 s9_30;refine Qe (hKb28 _) ?_;refine Q.wrapPO fun Kj15 hKj15=>?_;have hj15:∀(s5_16:Int),Z60_j15 s6_10 (Z60_l8 a0 a1 n8) s5_16=Kj15 s5_16:=by
      intro s5_16;refine Qe (hKj15 _) ?_;unfold Z60_j15;all_goals exact ih8 _ _ ⟨by omega,by omega⟩
     all_goals exact hj15 _
    all_goals exact hj25 _
   all_goals exact hend n8 s5_9 s6_10
  rw [dL (by omega),Z60_q8];refine Q.condAF (Q.ltF hlt) ?_;exact hend n8 s5_9 s6_10
def Z60_q (a0:TDoc) (a1:Int):Option Int:=Option.bind (Z60_q8 a1 a0.FDefs.l ((a0.FDefs.l.length:Nat):Int)) fun s5_9=>on (s5_9) fun s5_5=>some s5_5
theorem Z60_eq (a0:TDoc) (a1:Int):Z60 a0 a1=Z60_q a0 a1:=by
 unfold Z60 Z60_q;refine Qs ?_;refine Q.wrapOO fun Kb8 hKb8=>?_;refine Z60_l8_qe  Kb8 ?_ _ _ _ ⟨Nat.succ_pos _,by omega⟩;intro n8 s5_9 s6_10;refine Qe (hKb8 _) ?_;refine Q.wrapPO fun Kj4 hKj4=>?_;have hj4:∀(s5_5:Int),Z60_j4  s5_5=Kj4 s5_5:=by
  intro s5_5;refine Qe (hKj4 _) ?_;unfold Z60_j4;all_goals rfl
 all_goals exact hj4 _
def Z37_q (a0:Int):Bool:=((((decide ((65:Int)<=a0))&&(decide (a0<=(90:Int))))||((decide ((97:Int)<=a0))&&(decide (a0<=(122:Int)))))||(decide (a0=(95:Int))))
theorem Z37_eq (a0:Int):Z37 a0=some (Z37_q a0):=by
 unfold Z37 Z37_q;all_goals rfl
def Z36_q (a0:Int):Bool:=((decide ((48:Int)<=a0))&&(decide (a0<=(57:Int))))
theorem Z36_eq (a0:Int):Z36 a0=some (Z36_q a0):=by
 unfold Z36 Z36_q;all_goals rfl
def Z34_q10 :List UInt8->Nat->Unit ⊕ Bool
 | [],s3_11=>Sum.inl ()
 | h10::r10,s3_11=>on (h10) fun x18=>on (Z37_q ((x18.toNat:Nat):Int)) fun x19=>on (bif ((!x19)&&!(decide (((s3_11:Nat):Int)=(0:Int)))) then h10 else(0:UInt8)) fun x20=>on (bif ((!x19)&&!(decide (((s3_11:Nat):Int)=(0:Int)))) then Z36_q ((x20.toNat:Nat):Int) else false) fun x21=>bif ((!x19)&&((decide (((s3_11:Nat):Int)=(0:Int)))||(!x21))) then(Sum.inr false) else(Z34_q10  (r10) (s3_11+1) )
theorem Z34_l10_qe {a0:Bs}  (Kb10:(Unit ⊕ Bool)->Option Bool) (hend:∀(n10:Nat) (s3_11:Nat),Z34_j7   =Kb10 (Sum.inl ())) (hret:∀e:Bool,some e=Kb10 (Sum.inr e)):∀(n10:Nat) (s3_11:Nat),(0<n10/\a0.length<s3_11+n10)->Z34_l10 a0 n10 s3_11=Kb10 (Z34_q10  (a0.drop s3_11) s3_11 ):=by
 intro n10;induction n10 with
 | zero=>intro s3_11 hn; exact absurd hn.1 (by omega)
 | succ n10 ih10 =>
  intro s3_11 hn;rw [Z34_l10];by_cases hlt:s3_11<a0.length
  ·obtain⟨h10,hh10⟩:=Qa hlt;rw [Q.drop_of hh10,Z34_q10];refine QT hlt ?_;refine Q.bindP hh10 fun x18 hx_x18=>?_;refine Q.bindP (Z37_eq _) fun x19 hx_x19=>?_;refine Q.guardP hh10 fun x20 hx_x20=>?_;refine Q.guardP (Z36_eq _) fun x21 hx_x21=>?_;refine Q.condP ?_ ?_
   ·all_goals exact hret _
   all_goals exact ih10 _ ⟨by omega,by omega⟩
  rw [dL (by omega),Z34_q10];refine QF hlt ?_;exact hend n10 s3_11
def Z34_q (a0:Bs):Bool:=bif ((decide (((a0.length:Nat):Int)<(1:Int)))||(decide ((64:Int)<((a0.length:Nat):Int)))) then(false) else(on (Z34_q10  a0 0 ) fun o10=>match o10 with|Sum.inl _=>(on (()) fun _=>true)|Sum.inr e10=>(e10))
theorem Z34_eq (a0:Bs):Z34 a0=some (Z34_q a0):=by
 unfold Z34 Z34_q;refine Q.condP ?_ ?_
 ·all_goals rfl
 refine Q.wrapPP fun Kb10 hKb10=>?_;refine Z34_l10_qe  Kb10 ?_ ?_ _ _ ⟨Nat.succ_pos _,by omega⟩
 ·intro n10 s3_11;refine Qe (hKb10 _) ?_;try dsimp only
  refine Q.wrapPP fun Kj7 hKj7=>?_;have hj7:Z34_j7  =Kj7 ():=by
   refine Qe (hKj7 _) ?_;unfold Z34_j7;all_goals rfl
  all_goals exact hj7
 intro e10;refine Qe (hKb10 _) ?_;try dsimp only
 all_goals rfl
def Z42_q7 (k_rec_121:Z7->Option Int):List Z7->Int->Option (Int)
 | [],s3_8=>some s3_8
 | h7::r7,s3_8=>on (h7) fun x15=>(k_rec_121 x15).bind fun x16=>(addC s3_8 x16).bind fun x17=>Z42_q7 k_rec_121 (r7) x17
theorem Z42_l7_qe {a0:Z7}{k_rec_121:Z7->Option Int}  (Kb7:(Int)->Option Int) (hend:∀(n7:Nat) (s3_8:Int) (s4_9:Nat),Z42_j3   s3_8=Kb7 s3_8):∀(n7:Nat) (s3_8:Int) (s4_9:Nat),(0<n7/\a0.FItems.l.length<s4_9+n7)->Z42_l7 a0 k_rec_121 n7 s3_8 s4_9=Option.bind (Z42_q7 k_rec_121 (a0.FItems.l.drop s4_9) s3_8) Kb7:=by
 intro n7;induction n7 with
 | zero=>intro s3_8 s4_9 hn; exact absurd hn.1 (by omega)
 | succ n7 ih7 =>
  intro s3_8 s4_9 hn;rw [Z42_l7];by_cases hlt:s4_9<a0.FItems.l.length
  ·obtain⟨h7,hh7⟩:=Qa hlt;rw [Q.drop_of hh7,Z42_q7];refine QT hlt ?_;refine Q.bindPO hh7 fun x15 hx_x15=>?_;refine Q.bindO rfl fun x16=>?_;refine Q.bindO rfl fun x17=>?_;all_goals exact ih7 _ _ ⟨by omega,by omega⟩
  rw [dL (by omega),Z42_q7];refine QF hlt ?_;exact hend n7 s3_8 s4_9
def Z42_qn:Nat->Z7->Option Int
 | 0,_=>none
 | n+1,a0=>Option.bind (Z42_q7 (Z42_qn n) a0.FItems.l (1:Int)) fun s3_8=>on (s3_8) fun s3_4=>some s3_4
theorem Z42_qall:∀n:Nat,Z42_n n=Z42_qn n:=by
 intro n;induction n with
 | zero=>exact(by funext a0; first|rfl|(rw [Z42_n,Z42_qn]))
 | succ n ih =>
  funext a0
  refine Qs ?_;rw [Z42_n,Z42_qn];try rw [ih]
  refine Q.wrapOO fun Kb7 hKb7=>?_;refine Z42_l7_qe  Kb7 ?_ _ _ _ ⟨Nat.succ_pos _,by omega⟩;intro n7 s3_8 s4_9;refine Qe (hKb7 _) ?_;refine Q.wrapPO fun Kj3 hKj3=>?_;have hj3:∀(s3_4:Int),Z42_j3  s3_4=Kj3 s3_4:=by
   intro s3_4;refine Qe (hKj3 _) ?_;unfold Z42_j3;all_goals rfl
  all_goals exact hj3 _
def Z42_q (a0:Z7):Option Int:=Z42_qn F0 a0
theorem Z42_eq (a0:Z7):Z42 a0=Z42_q a0:=by
 unfold Z42 Z42_q; rw [(Z42_qall F0)]
def Z39_q8 (k_rec_122:Z7->Option Int):List Z7->Int->Option (Int)
 | [],s3_9=>some s3_9
 | h8::r8,s3_9=>on (h8) fun x16=>(k_rec_122 x16).bind fun x17=>Z39_q8 k_rec_122 (r8) (if x17>s3_9 then x17 else s3_9)
theorem Z39_l8_qe {a0:Z7}{k_rec_122:Z7->Option Int}  (Kb8:(Int)->Option Int) (hend:∀(n8:Nat) (s3_9:Int) (s4_10:Nat),Z39_j3   s3_9=Kb8 s3_9):∀(n8:Nat) (s3_9:Int) (s4_10:Nat),(0<n8/\a0.FItems.l.length<s4_10+n8)->Z39_l8 a0 k_rec_122 n8 s3_9 s4_10=Option.bind (Z39_q8 k_rec_122 (a0.FItems.l.drop s4_10) s3_9) Kb8:=by
 intro n8;induction n8 with
 | zero=>intro s3_9 s4_10 hn; exact absurd hn.1 (by omega)
 | succ n8 ih8 =>
  intro s3_9 s4_10 hn;rw [Z39_l8];by_cases hlt:s4_10<a0.FItems.l.length
  ·obtain⟨h8,hh8⟩:=Qa hlt;rw [Q.drop_of hh8,Z39_q8];refine QT hlt ?_;refine Q.bindPO hh8 fun x16 hx_x16=>?_;refine Q.bindO rfl fun x17=>?_;all_goals exact ih8 _ _ ⟨by omega,by omega⟩
  rw [dL (by omega),Z39_q8];refine QF hlt ?_;exact hend n8 s3_9 s4_10
def Z39_qn:Nat->Z7->Option Int
 | 0,_=>none
 | n+1,a0=>Option.bind (Z39_q8 (Z39_qn n) a0.FItems.l (0:Int)) fun s3_9=>on (s3_9) fun s3_4=>(addC s3_4 (1:Int)).bind fun x6=>some x6
theorem Z39_qall:∀n:Nat,Z39_n n=Z39_qn n:=by
 intro n;induction n with
 | zero=>exact(by funext a0; first|rfl|(rw [Z39_n,Z39_qn]))
 | succ n ih =>
  funext a0
  refine Qs ?_;rw [Z39_n,Z39_qn];try rw [ih]
  refine Q.wrapOO fun Kb8 hKb8=>?_;refine Z39_l8_qe  Kb8 ?_ _ _ _ ⟨Nat.succ_pos _,by omega⟩;intro n8 s3_9 s4_10;refine Qe (hKb8 _) ?_;refine Q.wrapPO fun Kj3 hKj3=>?_;have hj3:∀(s3_4:Int),Z39_j3  s3_4=Kj3 s3_4:=by
   intro s3_4;refine Qe (hKj3 _) ?_;unfold Z39_j3;refine Q.bindO rfl fun x6=>?_;all_goals rfl
  all_goals exact hj3 _
def Z39_q (a0:Z7):Option Int:=Z39_qn F0 a0
theorem Z39_eq (a0:Z7):Z39 a0=Z39_q a0:=by
 unfold Z39 Z39_q; rw [(Z39_qall F0)]
def Z48_q13 (a0:(Sl Bs)) (h5:Bs):Nat->Nat->Option (Unit ⊕ Bool)
 | 0,s4_14=>some (Sum.inl ())
 | r13+1,s4_14=>on (h5) fun x20=>(a0.l[s4_14]?).bind fun x21=>bif ((x20==x21)) then(some (Sum.inr true)) else(Z48_q13 a0 h5 (r13) (s4_14+1) )
theorem Z48_l13_qe {a0:(Sl Bs)}{s3_6:Nat}{k_next_5:Nat->Option Bool}{h5:Bs}(hh5:a0.l[s3_6]?=some h5) (Kb13:(Unit ⊕ Bool)->Option Bool) (hend:∀(n13:Nat) (s4_14:Nat),Z48_j11 s3_6 k_next_5 =Kb13 (Sum.inl ())) (hret:∀e:Bool,some e=Kb13 (Sum.inr e)):∀(n13:Nat) (s4_14:Nat),(0<n13/\s3_6<s4_14+n13)->Z48_l13 a0 s3_6 k_next_5 n13 s4_14=Option.bind (Z48_q13 a0 h5 (s3_6-s4_14) s4_14 ) Kb13:=by
 intro n13;induction n13 with
 | zero=>intro s4_14 hn; exact absurd hn.1 (by omega)
 | succ n13 ih13 =>
  intro s4_14 hn;rw [Z48_l13];by_cases hlt:s4_14<s3_6
  ·rw [show s3_6-s4_14=(s3_6-(s4_14+1))+1 by omega,Z48_q13];refine QT hlt ?_;refine Q.bindPO hh5 fun x20 hx_x20=>?_;refine Q.bindO rfl fun x21=>?_;refine Q.condO ?_ ?_
   ·all_goals exact hret _
   all_goals exact ih13 _ ⟨by omega,by omega⟩
  rw [show s3_6-s4_14=0 by omega,Z48_q13];refine QF hlt ?_;exact hend n13 s4_14
def Z48_q5 (a0:(Sl Bs)):List Bs->Nat->Option (Unit ⊕ Bool)
 | [],s3_6=>some (Sum.inl ())
 | h5::r5,s3_6=>Option.bind (Z48_q13 a0 h5 s3_6 0 ) fun o13=>match o13 with|Sum.inl _=>(on (()) fun _=>Z48_q5 a0 (r5) (s3_6+1) )|Sum.inr e13=>(some (Sum.inr e13))
theorem Z48_l5_qe {a0:(Sl Bs)}  (Kb5:(Unit ⊕ Bool)->Option Bool) (hend:∀(n5:Nat) (s3_6:Nat),Z48_j2   =Kb5 (Sum.inl ())) (hret:∀e:Bool,some e=Kb5 (Sum.inr e)):∀(n5:Nat) (s3_6:Nat),(0<n5/\a0.l.length<s3_6+n5)->Z48_l5 a0 n5 s3_6=Option.bind (Z48_q5 a0 (a0.l.drop s3_6) s3_6 ) Kb5:=by
 intro n5;induction n5 with
 | zero=>intro s3_6 hn; exact absurd hn.1 (by omega)
 | succ n5 ih5 =>
  intro s3_6 hn;rw [Z48_l5];by_cases hlt:s3_6<a0.l.length
  ·obtain⟨h5,hh5⟩:=Qa hlt;rw [Q.drop_of hh5,Z48_q5];refine QT hlt ?_;refine Q.wrapOO fun Kb13 hKb13=>?_;refine Z48_l13_qe hh5 Kb13 ?_ ?_ _ _ ⟨Nat.succ_pos _,by omega⟩
   ·intro n13 s4_14;refine Qe (hKb13 _) ?_;try dsimp only
    refine Q.wrapPO fun Kj11 hKj11=>?_;have hj11:Z48_j11 s3_6 (Z48_l5 a0 n5) =Kj11 ():=by
     refine Qe (hKj11 _) ?_;unfold Z48_j11;all_goals exact ih5 _ ⟨by omega,by omega⟩
    all_goals exact hj11
   intro e13;refine Qe (hKb13 _) ?_;try dsimp only
   all_goals exact hret _
  rw [dL (by omega),Z48_q5];refine QF hlt ?_;exact hend n5 s3_6
def Z48_q (a0:(Sl Bs)):Option Bool:=Option.bind (Z48_q5 a0 a0.l 0 ) fun o5=>match o5 with|Sum.inl _=>(on (()) fun _=>some false)|Sum.inr e5=>(some e5)
theorem Z48_eq (a0:(Sl Bs)):Z48 a0=Z48_q a0:=by
 unfold Z48 Z48_q;refine Qs ?_;refine Q.wrapOO fun Kb5 hKb5=>?_;refine Z48_l5_qe  Kb5 ?_ ?_ _ _ ⟨Nat.succ_pos _,by omega⟩
 ·intro n5 s3_6;refine Qe (hKb5 _) ?_;try dsimp only
  refine Q.wrapPO fun Kj2 hKj2=>?_;have hj2:Z48_j2  =Kj2 ():=by
   refine Qe (hKj2 _) ?_;unfold Z48_j2;all_goals rfl
  all_goals exact hj2
 intro e5;refine Qe (hKb5 _) ?_;try dsimp only
 all_goals rfl
def Z46_q (a0:Z7) (a1:Bool):Option Bool:=bif (decide (a0.FKind=(0:Int))) then(some ((((decide (a0.FInt=(0:Int)))&&((a0.FText==([]:Bs))))&&(decide (((a0.FItems.l.length:Nat):Int)=(0:Int))))&&(decide (((a0.FKeys.l.length:Nat):Int)=(0:Int))))) else(bif (decide (a0.FKind=(1:Int))) then(some (((((decide (a0.FInt=(0:Int)))||(decide (a0.FInt=(1:Int))))&&((a0.FText==([]:Bs))))&&(decide (((a0.FItems.l.length:Nat):Int)=(0:Int))))&&(decide (((a0.FKeys.l.length:Nat):Int)=(0:Int))))) else(bif (decide (a0.FKind=(2:Int))) then(some ((((a0.FText==([]:Bs)))&&(decide (((a0.FItems.l.length:Nat):Int)=(0:Int))))&&(decide (((a0.FKeys.l.length:Nat):Int)=(0:Int))))) else(bif (decide (a0.FKind=(3:Int))) then(some (((decide (a0.FInt=(0:Int)))&&(decide (((a0.FItems.l.length:Nat):Int)=(0:Int))))&&(decide (((a0.FKeys.l.length:Nat):Int)=(0:Int))))) else(bif (decide (a0.FKind=(4:Int))) then(on (bif (((decide (a0.FInt=(0:Int)))&&(decide (((a0.FItems.l.length:Nat):Int)=(0:Int))))&&(decide (((a0.FKeys.l.length:Nat):Int)=(0:Int)))) then Z34_q a0.FText else false) fun x19=>some (((((((decide (a0.FInt=(0:Int)))&&(decide (((a0.FItems.l.length:Nat):Int)=(0:Int))))&&(decide (((a0.FKeys.l.length:Nat):Int)=(0:Int))))&&x19)&&(!(a0.FText==([116,114,117,101]:Bs))))&&(!(a0.FText==([102,97,108,115,101]:Bs))))&&(!(a0.FText==([110,117,108,108]:Bs))))) else(bif (decide (a0.FKind=(5:Int))) then(some (((decide (a0.FInt=(0:Int)))&&((a0.FText==([]:Bs))))&&(decide (((a0.FKeys.l.length:Nat):Int)=(0:Int))))) else(bif (decide (a0.FKind=(6:Int))) then(guardO ((((decide (a0.FInt=(0:Int)))&&((a0.FText==([]:Bs))))&&(decide (((a0.FKeys.l.length:Nat):Int)=((a0.FItems.l.length:Nat):Int))))) (Z48_q a0.FKeys) false fun x26=>some ((((decide (a0.FInt=(0:Int)))&&((a0.FText==([]:Bs))))&&(decide (((a0.FKeys.l.length:Nat):Int)=((a0.FItems.l.length:Nat):Int))))&&(!x26))) else(bif (decide (a0.FKind=(7:Int))) then(on (bif (((a1&&(decide (a0.FInt=(0:Int))))&&(decide (((a0.FItems.l.length:Nat):Int)=(0:Int))))&&(decide (((a0.FKeys.l.length:Nat):Int)=(0:Int)))) then Z34_q a0.FText else false) fun x30=>some ((((a1&&(decide (a0.FInt=(0:Int))))&&(decide (((a0.FItems.l.length:Nat):Int)=(0:Int))))&&(decide (((a0.FKeys.l.length:Nat):Int)=(0:Int))))&&x30)) else(some false))))))))
theorem Z46_eq (a0:Z7) (a1:Bool):Z46 a0 a1=Z46_q a0 a1:=by
 unfold Z46 Z46_q;refine Qs ?_;refine Q.condO ?_ ?_
 ·all_goals rfl
 refine Q.condO ?_ ?_
 ·all_goals rfl
 refine Q.condO ?_ ?_
 ·all_goals rfl
 refine Q.condO ?_ ?_
 ·all_goals rfl
 refine Q.condO ?_ ?_
 ·refine Q.guardPO (Z34_eq _) fun x19 hx_x19=>?_;all_goals rfl
 refine Q.condO ?_ ?_
 ·all_goals rfl
 refine Q.condO ?_ ?_
 ·refine Q.guardOO (Z48_eq _) fun x26=>?_;all_goals rfl
 refine Q.condO ?_ ?_
 ·refine Q.guardPO (Z34_eq _) fun x30 hx_x30=>?_;all_goals rfl
 all_goals rfl
def Z49_q24 (a1:Bool):List Bs->Unit ⊕ Bool
 | []=>Sum.inl ()
 | h24::r24=>on (bif a1 then h24 else([]:Bs)) fun x32=>on (bif a1 then Z34_q x32 else false) fun x33=>bif (a1&&(!x33)) then(Sum.inr false) else(Z49_q24 a1 (r24) )
theorem Z49_l24_qe {a0:Z7}{a1:Bool}{k_rec_123:Z7->Bool->Option Bool}  (Kb24:(Unit ⊕ Bool)->Option Bool) (hend:∀(n24:Nat) (s5_25:Nat),Z49_j7 a0 a1 k_rec_123 =Kb24 (Sum.inl ())) (hret:∀e:Bool,some e=Kb24 (Sum.inr e)):∀(n24:Nat) (s5_25:Nat),(0<n24/\a0.FKeys.l.length<s5_25+n24)->Z49_l24 a0 a1 k_rec_123 n24 s5_25=Kb24 (Z49_q24 a1 (a0.FKeys.l.drop s5_25) ):=by
 intro n24;induction n24 with
 | zero=>intro s5_25 hn; exact absurd hn.1 (by omega)
 | succ n24 ih24 =>
  intro s5_25 hn;rw [Z49_l24];by_cases hlt:s5_25<a0.FKeys.l.length
  ·obtain⟨h24,hh24⟩:=Qa hlt;rw [Q.drop_of hh24,Z49_q24];refine QT hlt ?_;refine Q.guardP hh24 fun x32 hx_x32=>?_;refine Q.guardP (Z34_eq _) fun x33 hx_x33=>?_;refine Q.condP ?_ ?_
   ·all_goals exact hret _
   all_goals exact ih24 _ ⟨by omega,by omega⟩
  rw [dL (by omega),Z49_q24];refine QF hlt ?_;exact hend n24 s5_25
def Z49_q11 (a1:Bool) (k_rec_123:Z7->Bool->Option Bool):List Z7->Option (Unit ⊕ Bool)
 | []=>some (Sum.inl ())
 | h11::r11=>on (h11) fun x19=>(k_rec_123 x19 a1).bind fun x20=>bif (!x20) then(some (Sum.inr false)) else(Z49_q11 a1 k_rec_123 (r11) )
theorem Z49_l11_qe {a0:Z7}{a1:Bool}{k_rec_123:Z7->Bool->Option Bool}  (Kb11:(Unit ⊕ Bool)->Option Bool) (hend:∀(n11:Nat) (s6_12:Nat),Z49_j8   =Kb11 (Sum.inl ())) (hret:∀e:Bool,some e=Kb11 (Sum.inr e)):∀(n11:Nat) (s6_12:Nat),(0<n11/\a0.FItems.l.length<s6_12+n11)->Z49_l11 a0 a1 k_rec_123 n11 s6_12=Option.bind (Z49_q11 a1 k_rec_123 (a0.FItems.l.drop s6_12) ) Kb11:=by
 intro n11;induction n11 with
 | zero=>intro s6_12 hn; exact absurd hn.1 (by omega)
 | succ n11 ih11 =>
  intro s6_12 hn;rw [Z49_l11];by_cases hlt:s6_12<a0.FItems.l.length
  ·obtain⟨h11,hh11⟩:=Qa hlt;rw [Q.drop_of hh11,Z49_q11];refine QT hlt ?_;refine Q.bindPO hh11 fun x19 hx_x19=>?_;refine Q.bindO rfl fun x20=>?_;refine Q.condO ?_ ?_
   ·all_goals exact hret _
   all_goals exact ih11 _ ⟨by omega,by omega⟩
  rw [dL (by omega),Z49_q11];refine QF hlt ?_;exact hend n11 s6_12
def Z49_qn:Nat->Z7->Bool->Option Bool
 | 0,_,_=>none
 | n+1,a0,a1=>(Z46_q a0 a1).bind fun x4=>bif (!x4) then(some false) else(on (Z49_q24 a1 a0.FKeys.l ) fun o24=>match o24 with|Sum.inl _=>(on (()) fun _=>Option.bind (Z49_q11 a1 (Z49_qn n) a0.FItems.l ) fun o11=>match o11 with|Sum.inl _=>(on (()) fun _=>some true)|Sum.inr e11=>(some e11))|Sum.inr e24=>(some e24))
theorem Z49_qall:∀n:Nat,Z49_n n=Z49_qn n:=by
 intro n;induction n with
 | zero=>exact(by funext a0 a1; first|rfl|(rw [Z49_n,Z49_qn]))
 | succ n ih =>
  funext a0 a1
  refine Qs ?_;rw [Z49_n,Z49_qn];try rw [ih]
  refine Q.bindO (Z46_eq _ _) fun x4=>?_;refine Q.condO ?_ ?_
  ·all_goals rfl
  refine Q.wrapPO fun Kb24 hKb24=>?_;refine Z49_l24_qe  Kb24 ?_ ?_ _ _ ⟨Nat.succ_pos _,by omega⟩
  ·intro n24 s5_25;refine Qe (hKb24 _) ?_;try dsimp only
   refine Q.wrapPO fun Kj7 hKj7=>?_;have hj7:Z49_j7 a0 a1 (Z49_qn n) =Kj7 ():=by
    refine Qe (hKj7 _) ?_;unfold Z49_j7;refine Q.wrapOO fun Kb11 hKb11=>?_;refine Z49_l11_qe  Kb11 ?_ ?_ _ _ ⟨Nat.succ_pos _,by omega⟩
    ·intro n11 s6_12;refine Qe (hKb11 _) ?_;try dsimp only
     refine Q.wrapPO fun Kj8 hKj8=>?_;have hj8:Z49_j8  =Kj8 ():=by
      refine Qe (hKj8 _) ?_;unfold Z49_j8;all_goals rfl
     all_goals exact hj8
    intro e11;refine Qe (hKb11 _) ?_;try dsimp only
    all_goals rfl
   all_goals exact hj7
  intro e24;refine Qe (hKb24 _) ?_;try dsimp only
  all_goals rfl
def Z49_q (a0:Z7) (a1:Bool):Option Bool:=Z49_qn F0 a0 a1
theorem Z49_eq (a0:Z7) (a1:Bool):Z49 a0 a1=Z49_q a0 a1:=by
 unfold Z49 Z49_q; rw [(Z49_qall F0)]
def Z40_q (a0:Z7):Option Bool:=(Z42_q a0).bind fun x3=>guardO ((decide (x3<=(4096:Int)))) (Z39_q a0) (0:Int) fun x4=>guardO (((decide (x3<=(4096:Int)))&&(decide (x4<=(24:Int))))) (Z49_q a0 true) false fun x5=>some (((decide (x3<=(4096:Int)))&&(decide (x4<=(24:Int))))&&x5)
theorem Z40_eq (a0:Z7):Z40 a0=Z40_q a0:=by
 unfold Z40 Z40_q;refine Qs ?_;refine Q.bindO (Z42_eq _) fun x3=>?_;refine Q.guardOO (Z39_eq _) fun x4=>?_;refine Q.guardOO (Z49_eq _ _) fun x5=>?_;all_goals rfl
def Z61_q5 (k_rec_97:Z7->Option Bool):List Z7->Option (Unit ⊕ Bool)
 | []=>some (Sum.inl ())
 | h5::r5=>on (h5) fun x13=>(k_rec_97 x13).bind fun x14=>bif (!x14) then(some (Sum.inr false)) else(Z61_q5 k_rec_97 (r5) )
theorem Z61_l5_qe {a0:Z7}{k_rec_97:Z7->Option Bool}  (Kb5:(Unit ⊕ Bool)->Option Bool) (hend:∀(n5:Nat) (s3_6:Nat),Z61_j2 a0  =Kb5 (Sum.inl ())) (hret:∀e:Bool,some e=Kb5 (Sum.inr e)):∀(n5:Nat) (s3_6:Nat),(0<n5/\a0.FItems.l.length<s3_6+n5)->Z61_l5 a0 k_rec_97 n5 s3_6=Option.bind (Z61_q5 k_rec_97 (a0.FItems.l.drop s3_6) ) Kb5:=by
 intro n5;induction n5 with
 | zero=>intro s3_6 hn; exact absurd hn.1 (by omega)
 | succ n5 ih5 =>
  intro s3_6 hn;rw [Z61_l5];by_cases hlt:s3_6<a0.FItems.l.length
  ·obtain⟨h5,hh5⟩:=Qa hlt;rw [Q.drop_of hh5,Z61_q5];refine QT hlt ?_;refine Q.bindPO hh5 fun x13 hx_x13=>?_;refine Q.bindO rfl fun x14=>?_;refine Q.condO ?_ ?_
   ·all_goals exact hret _
   all_goals exact ih5 _ ⟨by omega,by omega⟩
  rw [dL (by omega),Z61_q5];refine QF hlt ?_;exact hend n5 s3_6
def Z61_qn:Nat->Z7->Option Bool
 | 0,_=>none
 | n+1,a0=>Option.bind (Z61_q5 (Z61_qn n) a0.FItems.l ) fun o5=>match o5 with|Sum.inl _=>(on (()) fun _=>some (!decide (a0.FKind=(7:Int))))|Sum.inr e5=>(some e5)
theorem Z61_qall:∀n:Nat,Z61_n n=Z61_qn n:=by
 intro n;induction n with
 | zero=>exact(by funext a0; first|rfl|(rw [Z61_n,Z61_qn]))
 | succ n ih =>
  funext a0
  refine Qs ?_;rw [Z61_n,Z61_qn];try rw [ih]
  refine Q.wrapOO fun Kb5 hKb5=>?_;refine Z61_l5_qe  Kb5 ?_ ?_ _ _ ⟨Nat.succ_pos _,by omega⟩
  ·intro n5 s3_6;refine Qe (hKb5 _) ?_;try dsimp only
   refine Q.wrapPO fun Kj2 hKj2=>?_;have hj2:Z61_j2 a0 =Kj2 ():=by
    refine Qe (hKj2 _) ?_;unfold Z61_j2;all_goals rfl
   all_goals exact hj2
  intro e5;refine Qe (hKb5 _) ?_;try dsimp only
  all_goals rfl
def Z61_q (a0:Z7):Option Bool:=Z61_qn F0 a0
theorem Z61_eq (a0:Z7):Z61 a0=Z61_q a0:=by
 unfold Z61 Z61_q; rw [(Z61_qall F0)]
def Z63_q25 (h10:TDir):List TArg->Option (Unit ⊕ Bool)
 | []=>some (Sum.inl ())
 | h25::r25=>on (h10) fun x34=>on (h25) fun x35=>on (Z34_q x35.FName) fun x37=>guardO (!(!x37)) (Z40_q x35.FValue) false fun x38=>guardO (!((!x37)||(!x38))) (Z61_q x35.FValue) false fun x39=>bif (((!x37)||(!x38))||(!x39)) then(some (Sum.inr false)) else(Z63_q25 h10 (r25) )
theorem Z63_l25_qe {a0:(Sl TDir)}{s3_11:Nat}{k_next_10:Nat->Option Bool}{h10:TDir}(hh10:a0.l[s3_11]?=some h10) (Kb25:(Unit ⊕ Bool)->Option Bool) (hend:∀(n25:Nat) (s4_26:Nat),Z63_j16 s3_11 k_next_10 =Kb25 (Sum.inl ())) (hret:∀e:Bool,some e=Kb25 (Sum.inr e)):∀(n25:Nat) (s4_26:Nat),(0<n25/\h10.FArgs.l.length<s4_26+n25)->Z63_l25 a0 s3_11 k_next_10 n25 s4_26=Option.bind (Z63_q25 h10 (h10.FArgs.l.drop s4_26) ) Kb25:=by
 intro n25;induction n25 with
 | zero=>intro s4_26 hn; exact absurd hn.1 (by omega)
 | succ n25 ih25 =>
  intro s4_26 hn;rw [Z63_l25];refine Q.preB hh10 fun x29 hx_x29=>?_;subst hx_x29;by_cases hlt:s4_26<x29.FArgs.l.length
  ·obtain⟨h25,hh25⟩:=Qa hlt;rw [Q.drop_of hh25,Z63_q25];refine QT hlt ?_;refine Q.bindPO hh10 fun x34 hx_x34=>?_;refine Q.bindPO (by first|exact hh25|(simp only [hx_x34]; exact hh25)|(simp only [hx_x34] at hh25 ⊢; exact hh25)) fun x35 hx_x35=>?_;refine Q.bindPO (Z34_eq _) fun x37 hx_x37=>?_;refine Q.guardOO (Z40_eq _) fun x38=>?_;refine Q.guardOO (Z61_eq _) fun x39=>?_;refine Q.condO ?_ ?_
   ·all_goals exact hret _
   all_goals exact ih25 _ ⟨by omega,by omega⟩
  rw [dL (by omega),Z63_q25];refine QF hlt ?_;exact hend n25 s4_26
def Z63_q10 :List TDir->Option (Unit ⊕ Bool)
 | []=>some (Sum.inl ())
 | h10::r10=>on (h10) fun x19=>on (Z34_q x19.FName) fun x20=>on (bif !(!x20) then h10 else TDir.zero) fun x21=>bif ((!x20)||(decide ((16:Int)<((x21.FArgs.l.length:Nat):Int)))) then(some (Sum.inr false)) else(Option.bind (Z63_q25 h10 h10.FArgs.l ) fun o25=>match o25 with|Sum.inl _=>(on (()) fun _=>Z63_q10  (r10) )|Sum.inr e25=>(some (Sum.inr e25)))
theorem Z63_l10_qe {a0:(Sl TDir)}  (Kb10:(Unit ⊕ Bool)->Option Bool) (hend:∀(n10:Nat) (s3_11:Nat),Z63_j7   =Kb10 (Sum.inl ())) (hret:∀e:Bool,some e=Kb10 (Sum.inr e)):∀(n10:Nat) (s3_11:Nat),(0<n10/\a0.l.length<s3_11+n10)->Z63_l10 a0 n10 s3_11=Option.bind (Z63_q10  (a0.l.drop s3_11) ) Kb10:=by
 intro n10;induction n10 with
 | zero=>intro s3_11 hn; exact absurd hn.1 (by omega)
 | succ n10 ih10 =>
  intro s3_11 hn;rw [Z63_l10];by_cases hlt:s3_11<a0.l.length
  ·obtain⟨h10,hh10⟩:=Qa hlt;rw [Q.drop_of hh10,Z63_q10];refine QT hlt ?_;refine Q.bindPO hh10 fun x19 hx_x19=>?_;refine Q.bindPO (Z34_eq _) fun x20 hx_x20=>?_;refine Q.guardPO hh10 fun x21 hx_x21=>?_;refine Q.condO ?_ ?_
   ·all_goals exact hret _
   refine Q.wrapOO fun Kb25 hKb25=>?_;refine Z63_l25_qe hh10 Kb25 ?_ ?_ _ _ ⟨by rw [hh10]; exact Nat.succ_pos _,by rw [hh10]; simp only [Option.elim]; omega⟩
   ·intro n25 s4_26;refine Qe (hKb25 _) ?_;try dsimp only
    refine Q.wrapPO fun Kj16 hKj16=>?_;have hj16:Z63_j16 s3_11 (Z63_l10 a0 n10) =Kj16 ():=by
     refine Qe (hKj16 _) ?_;unfold Z63_j16;all_goals exact ih10 _ ⟨by omega,by omega⟩
    all_goals exact hj16
   intro e25;refine Qe (hKb25 _) ?_;try dsimp only
   all_goals exact hret _
  rw [dL (by omega),Z63_q10];refine QF hlt ?_;exact hend n10 s3_11
def Z63_q (a0:(Sl TDir)):Option Bool:=bif (decide ((16:Int)<((a0.l.length:Nat):Int))) then(some false) else(Option.bind (Z63_q10  a0.l ) fun o10=>match o10 with|Sum.inl _=>(on (()) fun _=>some true)|Sum.inr e10=>(some e10))
theorem Z63_eq (a0:(Sl TDir)):Z63 a0=Z63_q a0:=by
 unfold Z63 Z63_q;refine Qs ?_;refine Q.condO ?_ ?_
 ·all_goals rfl
 refine Q.wrapOO fun Kb10 hKb10=>?_;refine Z63_l10_qe  Kb10 ?_ ?_ _ _ ⟨Nat.succ_pos _,by omega⟩
 ·intro n10 s3_11;refine Qe (hKb10 _) ?_;try dsimp only
  refine Q.wrapPO fun Kj7 hKj7=>?_;have hj7:Z63_j7  =Kj7 ():=by
   refine Qe (hKj7 _) ?_;unfold Z63_j7;all_goals rfl
  all_goals exact hj7
 intro e10;refine Qe (hKb10 _) ?_;try dsimp only
 all_goals rfl
def Z55_q10 (a0:TRef):List Int->Nat->Option (Unit ⊕ Bool)
 | [],s3_11=>some (Sum.inl ())
 | h10::r10,s3_11=>on (h10) fun x19=>on (bif (!decide (x19=(1:Int))) then h10 else(0:Int)) fun x20=>bif ((!decide (x19=(1:Int)))&&(!decide (x20=(2:Int)))) then(some (Sum.inr false)) else(on (bif (decide ((0:Int)<((s3_11:Nat):Int))) then h10 else(0:Int)) fun x24=>guardO (((decide ((0:Int)<((s3_11:Nat):Int)))&&(decide (x24=(1:Int))))) (subC ((s3_11:Nat):Int) (1:Int)) (0:Int) fun x25=>guardO (((decide ((0:Int)<((s3_11:Nat):Int)))&&(decide (x24=(1:Int))))) (idxC a0.FWraps.l x25) (0:Int) fun x26=>bif (((decide ((0:Int)<((s3_11:Nat):Int)))&&(decide (x24=(1:Int))))&&(decide (x26=(1:Int)))) then(some (Sum.inr false)) else(Z55_q10 a0 (r10) (s3_11+1) ))
theorem Z55_l10_qe {a0:TRef}  (Kb10:(Unit ⊕ Bool)->Option Bool) (hend:∀(n10:Nat) (s3_11:Nat),Z55_j7   =Kb10 (Sum.inl ())) (hret:∀e:Bool,some e=Kb10 (Sum.inr e)):∀(n10:Nat) (s3_11:Nat),(0<n10/\a0.FWraps.l.length<s3_11+n10)->Z55_l10 a0 n10 s3_11=Option.bind (Z55_q10 a0 (a0.FWraps.l.drop s3_11) s3_11 ) Kb10:=by
 intro n10;induction n10 with
 | zero=>intro s3_11 hn; exact absurd hn.1 (by omega)
 | succ n10 ih10 =>
  intro s3_11 hn;rw [Z55_l10];by_cases hlt:s3_11<a0.FWraps.l.length
  ·obtain⟨h10,hh10⟩:=Qa hlt;rw [Q.drop_of hh10,Z55_q10];refine QT hlt ?_;refine Q.bindPO hh10 fun x19 hx_x19=>?_;refine Q.guardPO hh10 fun x20 hx_x20=>?_;refine Q.condO ?_ ?_
   ·all_goals exact hret _
   refine Q.guardPO hh10 fun x24 hx_x24=>?_;refine Q.guardOO rfl fun x25=>?_;refine Q.guardOO rfl fun x26=>?_;refine Q.condO ?_ ?_
   ·all_goals exact hret _
   all_goals exact ih10 _ ⟨by omega,by omega⟩
  rw [dL (by omega),Z55_q10];refine QF hlt ?_;exact hend n10 s3_11
def Z55_q (a0:TRef):Option Bool:=on (Z34_q a0.FName) fun x4=>bif ((!x4)||(decide ((24:Int)<((a0.FWraps.l.length:Nat):Int)))) then(some false) else(Option.bind (Z55_q10 a0 a0.FWraps.l 0 ) fun o10=>match o10 with|Sum.inl _=>(on (()) fun _=>some true)|Sum.inr e10=>(some e10))
theorem Z55_eq (a0:TRef):Z55 a0=Z55_q a0:=by
 unfold Z55 Z55_q;refine Qs ?_;refine Q.bindPO (Z34_eq _) fun x4 hx_x4=>?_;refine Q.condO ?_ ?_
 ·all_goals rfl
 refine Q.wrapOO fun Kb10 hKb10=>?_;refine Z55_l10_qe  Kb10 ?_ ?_ _ _ ⟨Nat.succ_pos _,by omega⟩
 ·intro n10 s3_11;refine Qe (hKb10 _) ?_;try dsimp only
  refine Q.wrapPO fun Kj7 hKj7=>?_;have hj7:Z55_j7  =Kj7 ():=by
   refine Qe (hKj7 _) ?_;unfold Z55_j7;all_goals rfl
  all_goals exact hj7
 intro e10;refine Qe (hKb10 _) ?_;try dsimp only
 all_goals rfl
def Z67_q (a0:Z7):Bool:=(((((decide (a0.FKind=(0:Int)))&&(decide (a0.FInt=(0:Int))))&&((a0.FText==([]:Bs))))&&(decide (((a0.FItems.l.length:Nat):Int)=(0:Int))))&&(decide (((a0.FKeys.l.length:Nat):Int)=(0:Int))))
theorem Z67_eq (a0:Z7):Z67 a0=some (Z67_q a0):=by
 unfold Z67 Z67_q;all_goals rfl
def Z65_q10 :List Z5->Option (Unit ⊕ Bool)
 | []=>some (Sum.inl ())
 | h10::r10=>on (h10) fun x18=>on (Z34_q x18.FName) fun x21=>guardO (!(!x21)) (Z55_q x18.FType) false fun x22=>guardO (!((!x21)||(!x22))) (Z63_q x18.FDirs) false fun x23=>bif (((!x21)||(!x22))||(!x23)) then(some (Sum.inr false)) else(guardO (x18.FHas) (Z40_q x18.FDefault) false fun x27=>guardO ((x18.FHas&&!(!x27))) (Z61_q x18.FDefault) false fun x28=>on (bif (!(x18.FHas&&((!x27)||(!x28)))&&(!x18.FHas)) then Z67_q x18.FDefault else false) fun x29=>bif ((x18.FHas&&((!x27)||(!x28)))||((!x18.FHas)&&(!x29))) then(some (Sum.inr false)) else(Z65_q10  (r10) ))
theorem Z65_l10_qe {a0:(Sl Z5)}  (Kb10:(Unit ⊕ Bool)->Option Bool) (hend:∀(n10:Nat) (s3_11:Nat),Z65_j7   =Kb10 (Sum.inl ())) (hret:∀e:Bool,some e=Kb10 (Sum.inr e)):∀(n10:Nat) (s3_11:Nat),(0<n10/\a0.l.length<s3_11+n10)->Z65_l10 a0 n10 s3_11=Option.bind (Z65_q10  (a0.l.drop s3_11) ) Kb10:=by
 intro n10;induction n10 with
 | zero=>intro s3_11 hn; exact absurd hn.1 (by omega)
 | succ n10 ih10 =>
  intro s3_11 hn;rw [Z65_l10];by_cases hlt:s3_11<a0.l.length
  ·obtain⟨h10,hh10⟩:=Qa hlt;rw [Q.drop_of hh10,Z65_q10];refine QT hlt ?_;refine Q.bindPO hh10 fun x18 hx_x18=>?_;refine Q.bindPO (Z34_eq _) fun x21 hx_x21=>?_;refine Q.guardOO (Z55_eq _) fun x22=>?_;refine Q.guardOO (Z63_eq _) fun x23=>?_;refine Q.condO ?_ ?_
   ·all_goals exact hret _
   refine Q.guardOO (Z40_eq _) fun x27=>?_;refine Q.guardOO (Z61_eq _) fun x28=>?_;refine Q.guardPO (Z67_eq _) fun x29 hx_x29=>?_;refine Q.condO ?_ ?_
   ·all_goals exact hret _
   all_goals exact ih10 _ ⟨by omega,by omega⟩
  rw [dL (by omega),Z65_q10];refine QF hlt ?_;exact hend n10 s3_11
def Z65_q (a0:(Sl Z5)):Option Bool:=bif (decide ((16:Int)<((a0.l.length:Nat):Int))) then(some false) else(Option.bind (Z65_q10  a0.l ) fun o10=>match o10 with|Sum.inl _=>(on (()) fun _=>some true)|Sum.inr e10=>(some e10))
theorem Z65_eq (a0:(Sl Z5)):Z65 a0=Z65_q a0:=by
 unfold Z65 Z65_q;refine Qs ?_;refine Q.condO ?_ ?_
 ·all_goals rfl
 refine Q.wrapOO fun Kb10 hKb10=>?_;refine Z65_l10_qe  Kb10 ?_ ?_ _ _ ⟨Nat.succ_pos _,by omega⟩
 ·intro n10 s3_11;refine Qe (hKb10 _) ?_;try dsimp only
  refine Q.wrapPO fun Kj7 hKj7=>?_;have hj7:Z65_j7  =Kj7 ():=by
   refine Qe (hKj7 _) ?_;unfold Z65_j7;all_goals rfl
  all_goals exact hj7
 intro e10;refine Qe (hKb10 _) ?_;try dsimp only
 all_goals rfl
def Z64_q10 :List Z4->Option (Unit ⊕ Bool)
 | []=>some (Sum.inl ())
 | h10::r10=>on (h10) fun x18=>on (Z34_q x18.FName) fun x19=>on (bif !(!x19) then h10 else Z4.zero) fun x20=>guardO (!(!x19)) (Z65_q x20.FArgs) false fun x21=>on (bif !((!x19)||(!x21)) then h10 else Z4.zero) fun x22=>guardO (!((!x19)||(!x21))) (Z55_q x22.FType) false fun x23=>on (bif !(((!x19)||(!x21))||(!x23)) then h10 else Z4.zero) fun x24=>guardO (!(((!x19)||(!x21))||(!x23))) (Z63_q x24.FDirs) false fun x25=>bif ((((!x19)||(!x21))||(!x23))||(!x25)) then(some (Sum.inr false)) else(Z64_q10  (r10) )
theorem Z64_l10_qe {a0:(Sl Z4)}  (Kb10:(Unit ⊕ Bool)->Option Bool) (hend:∀(n10:Nat) (s3_11:Nat),Z64_j7   =Kb10 (Sum.inl ())) (hret:∀e:Bool,some e=Kb10 (Sum.inr e)):∀(n10:Nat) (s3_11:Nat),(0<n10/\a0.l.length<s3_11+n10)->Z64_l10 a0 n10 s3_11=Option.bind (Z64_q10  (a0.l.drop s3_11) ) Kb10:=by
 intro n10;induction n10 with
 | zero=>intro s3_11 hn; exact absurd hn.1 (by omega)
 | succ n10 ih10 =>
  intro s3_11 hn;rw [Z64_l10];by_cases hlt:s3_11<a0.l.length
  ·obtain⟨h10,hh10⟩:=Qa hlt;rw [Q.drop_of hh10,Z64_q10];refine QT hlt ?_;refine Q.bindPO hh10 fun x18 hx_x18=>?_;refine Q.bindPO (Z34_eq _) fun x19 hx_x19=>?_;refine Q.guardPO hh10 fun x20 hx_x20=>?_;refine Q.guardOO (Z65_eq _) fun x21=>?_;refine Q.guardPO hh10 fun x22 hx_x22=>?_;refine Q.guardOO (Z55_eq _) fun x23=>?_;refine Q.guardPO hh10 fun x24 hx_x24=>?_;refine Q.guardOO (Z63_eq _) fun x25=>?_
   refine Q.condO ?_ ?_
   ·all_goals exact hret _
   all_goals exact ih10 _ ⟨by omega,by omega⟩
  rw [dL (by omega),Z64_q10];refine QF hlt ?_;exact hend n10 s3_11
def Z64_q (a0:(Sl Z4)):Option Bool:=bif ((decide (((a0.l.length:Nat):Int)<(1:Int)))||(decide ((64:Int)<((a0.l.length:Nat):Int)))) then(some false) else(Option.bind (Z64_q10  a0.l ) fun o10=>match o10 with|Sum.inl _=>(on (()) fun _=>some true)|Sum.inr e10=>(some e10))
theorem Z64_eq (a0:(Sl Z4)):Z64 a0=Z64_q a0:=by
 unfold Z64 Z64_q;refine Qs ?_;refine Q.condO ?_ ?_
 ·all_goals rfl
 refine Q.wrapOO fun Kb10 hKb10=>?_;refine Z64_l10_qe  Kb10 ?_ ?_ _ _ ⟨Nat.succ_pos _,by omega⟩
 ·intro n10 s3_11;refine Qe (hKb10 _) ?_;try dsimp only
  refine Q.wrapPO fun Kj7 hKj7=>?_;have hj7:Z64_j7  =Kj7 ():=by
   refine Qe (hKj7 _) ?_;unfold Z64_j7;all_goals rfl
  all_goals exact hj7
 intro e10;refine Qe (hKb10 _) ?_;try dsimp only
 all_goals rfl
end Go.Proofs
