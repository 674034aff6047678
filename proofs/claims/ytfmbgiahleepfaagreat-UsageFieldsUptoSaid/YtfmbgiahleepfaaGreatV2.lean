import Derived.Test.YtfmbgiahleepfaaGreatV1
set_option maxRecDepth 100000
set_option maxHeartbeats 2000000
set_option linter.unusedVariables false
set_option linter.unusedSimpArgs false
namespace Go.Proofs
open Go Go.Ab
open AOps Cert AWp Keeps KeepsT
variable {lou:Lou}
def Z61_j7  :Option Bool:=some true
def Z61_l10 (a0:(Sl Z6)) :Nat->Nat->Option Bool
 | 0,_=>none
 | n10+1,s3_11=>bif (decide (((s3_11:Nat):Int)<((a0.l.length:Nat):Int))) then((a0.l[s3_11]?).bind fun x18=>(Z46 x18.FName).bind fun x21=>guardO (!(!x21)) (Z55 x18.FType) false fun x22=>guardO (!((!x21)||(!x22))) (Z59 x18.FDirs) false fun x23=>bif (((!x21)||(!x22))||(!x23)) then(some false) else(guardO (x18.FHas) (Z50 x18.FDefault) false fun x27=>guardO ((x18.FHas&&!(!x27))) (Z57 x18.FDefault) false fun x28=>guardO ((!(x18.FHas&&((!x27)||(!x28)))&&(!x18.FHas))) (Z63 x18.FDefault) false fun x29=>bif ((x18.FHas&&((!x27)||(!x28)))||((!x18.FHas)&&(!x29))) then(some false) else((Z61_l10 a0 n10) (s3_11+1)))) else(Z61_j7   )
def Z61 (a0:(Sl Z6)):Option Bool:=bif (decide ((16:Int)<((a0.l.length:Nat):Int))) then(some false) else(Z61_l10 a0 (a0.l.length+1) 0)
theorem Z61_walk {a0:Sl Z6}{w0:Option Nat}{r:Bool}(hE:Z61 a0=some r) (H:Heap) :ACalls Tryz.prog 74 [.d (Sl.d 10 Z6.c w0 a0)] H fun v h'=>v=.a (.d (.bool r))/\h'=H:=by
 unfold Z61 at hE;refine ACalls.oW 59 [.tmp 2] Tryz.call74 Tryz.func74 ?_;refine seqR (S As (nil ?_));refine seqK fun K2 hK2=>?_;refine seqR (S Mv ?_);refine sLen (f:=Z6.c) (s:=a0) (TK rfl) rfl rfl rfl rfl fun hL4=>?_;refine S BI (nil ?_);refine cE hE (fun hc5 hE=>?_) (fun hc5 hE=>?_)
 ·refine seqR (S As (nil ?_));exact rt hE
 refine sk hK2 ?_;clear hK2 K2;refine seqJH KeepsT.nil (fun(z:Unit)=>[]) (fun z=>H) (fun z=>Z61_j7 =some r) ?_ ?_
 ·intro K7 hK7;refine seqR (S As (nil ?_));refine block ?_;refine loopH (TA 0 KeepsT.nil) (fun(z:Nat×Nat)=>[(3,.a (.d (.int .i64 ((z.2:Nat):Int))))]) (fun z=>H) (fun z=>z.1) (fun z=>Z61_l10 a0 z.1 z.2=some r) ((a0.l.length+1),0) hE Weak.toA ?_;rintro ⟨n10,s3_11⟩ hE K10 hK10;try dsimp only at hE
  cases n10 with
  | zero=>cases hE
  | succ n10 =>
    rw [Z61_l10] at hE;refine seqK fun K12 hK12=>?_;refine seqR (S Mv (S Mv ?_));refine sLen (f:=Z6.c) (s:=a0) (TK rfl) rfl rfl rfl rfl fun hL14=>?_;refine S BI (nil ?_);refine cE hE (fun hc15 hE=>?_) (fun hc15 hE=>?_)
    ·try dsimp only at hc15
     have hf15:=of_decide_eq_true hc15;refine sk hK12 ?_;clear hK12 K12;refine seqK fun K16 hK16=>?_;refine block ?_;refine seqR (S Mv (S Mv ?_));obtain⟨x18,gx18,hE⟩:=bO hE;refine S (ix Z6.c s3_11 gx18) (S Ld ?_);refine Sl ?_;refine Sf ?_;refine nil ?_;refine freezeA 4 _ rfl (KA 0 (KA 3 Keeps.nil)) ?_;refine seqK fun K19 hK19=>?_;refine seqR (S Fv (S Ld ?_));obtain⟨x21,gx21,hE⟩:=bO hE;refine Sc rfl rfl (Z46_walk gx21) ?_
     refine S NB (S Mv (G0 Fv ?_));refine G1 23 rfl Ld ?_;obtain⟨x22,gx22,hE⟩:=gO hE;refine Gc1 24 rfl rfl rfl rfl rfl (fun hC=>Z55_walk (gx22 hC)) ?_;refine G1 25 rfl NB ?_;refine S PO (S Mv (G0 Fv ?_));refine G1 29 rfl Ld ?_;obtain⟨x23,gx23,hE⟩:=gO hE;refine Gc1 30 rfl rfl rfl rfl rfl (fun hC=>Z59_walk (gx23 hC)) ?_;refine G1 31 rfl NB ?_;refine S PO (nil ?_);refine cE hE (fun hc24 hE=>?_) (fun hc24 hE=>?_)
     ·refine seqR (S As (nil ?_));exact rt hE
     refine sk hK19 ?_;clear hK19 K19;refine seqR (S Fv (S Ld (S Mv (G0 Fv ?_))));refine G1 37 rfl Ld ?_;obtain⟨x27,gx27,hE⟩:=gO hE;refine Gc1 38 rfl rfl rfl rfl rfl (fun hC=>Z50_walk (gx27 hC)) ?_;refine G1 39 rfl NB ?_;refine G1 40 rfl Mv ?_;refine G0 Fv ?_;refine G1 42 rfl Ld ?_;obtain⟨x28,gx28,hE⟩:=gO hE;refine Gc1 43 rfl rfl rfl rfl rfl (fun hC=>Z57_walk (gx28 hC)) ?_;refine G1 44 rfl NB ?_;refine gC rfl rfl (fun hC=>ungdA (k:=41) rfl (pickOrA rfl rfl rfl)) rfl ?_
     refine S PA (S Mv (G0 Fv ?_));refine G1 49 rfl Ld ?_;refine G1 50 rfl NB ?_;refine G1 51 rfl Mv ?_;refine G0 Fv ?_;refine G1 53 rfl Ld ?_;obtain⟨x29,gx29,hE⟩:=gO hE;refine Gc1 54 rfl rfl rfl rfl rfl (fun hC=>Z63_walk (gx29 hC)) ?_;refine G1 55 rfl NB ?_;refine gC rfl rfl (fun hC=>ungdA (k:=52) rfl (pickAndA rfl rfl rfl)) rfl ?_;refine S PO (nil ?_);refine cE hE (fun hc30 hE=>?_) (fun hc30 hE=>?_)
     ·refine seqR (S As (nil ?_));exact rt hE
     refine sk hK16 ?_;clear hK16 K16;refine region ?_;refine S Mv ?_;refine SI ?_;refine S As (nil ?_);exact hK10 _ (n10,(s3_11+1)) Weak.toA hE (Nat.lt_succ_self _)
    refine AWp.exit ?_;exact hK7 _ () Weak.toA hE
 rintro _ hE;try dsimp only at hE
 unfold Z61_j7 at hE;refine seqR (S As (nil ?_));exact rt hE
def Z60_j7  :Option Bool:=some true
def Z60_l10 (a0:(Sl Z4)) :Nat->Nat->Option Bool
 | 0,_=>none
 | n10+1,s3_11=>bif (decide (((s3_11:Nat):Int)<((a0.l.length:Nat):Int))) then((a0.l[s3_11]?).bind fun x18=>(Z46 x18.FName).bind fun x19=>guardO (!(!x19)) (a0.l[s3_11]?) Z4.zero fun x20=>guardO (!(!x19)) (Z61 x20.FArgs) false fun x21=>guardO (!((!x19)||(!x21))) (a0.l[s3_11]?) Z4.zero fun x22=>guardO (!((!x19)||(!x21))) (Z55 x22.FType) false fun x23=>guardO (!(((!x19)||(!x21))||(!x23))) (a0.l[s3_11]?) Z4.zero fun x24=>guardO (!(((!x19)||(!x21))||(!x23))) (Z59 x24.FDirs) false fun x25=>bif ((((!x19)||(!x21))||(!x23))||(!x25)) then(some false) else((Z60_l10 a0 n10) (s3_11+1))) else(Z60_j7   )
def Z60 (a0:(Sl Z4)):Option Bool:=bif ((decide (((a0.l.length:Nat):Int)<(1:Int)))||(decide ((64:Int)<((a0.l.length:Nat):Int)))) then(some false) else(Z60_l10 a0 (a0.l.length+1) 0)
theorem Z60_walk {a0:Sl Z4}{w0:Option Nat}{r:Bool}(hE:Z60 a0=some r) (H:Heap) :ACalls Tryz.prog 72 [.d (Sl.d 5 Z4.c w0 a0)] H fun v h'=>v=.a (.d (.bool r))/\h'=H:=by
 unfold Z60 at hE;refine ACalls.oW 52 [.tmp 2] Tryz.call72 Tryz.func72 ?_;refine seqR (S As (nil ?_));refine seqK fun K2 hK2=>?_;refine seqR (S Mv ?_);refine sLen (f:=Z4.c) (s:=a0) (TK rfl) rfl rfl rfl rfl fun hL4=>?_;refine S BI (S Mv (G0 Mv ?_));refine gC rfl rfl (fun hC=>ungdA (k:=8) rfl (lenM' (f:=Z4.c) (s:=a0) (TK rfl) rfl rfl rfl)) rfl ?_;refine G1 9 rfl BI ?_;refine S PO (nil ?_);refine cE hE (fun hc5 hE=>?_) (fun hc5 hE=>?_)
 ·refine seqR (S As (nil ?_));exact rt hE
 refine sk hK2 ?_;clear hK2 K2;refine seqJH KeepsT.nil (fun(z:Unit)=>[]) (fun z=>H) (fun z=>Z60_j7 =some r) ?_ ?_
 ·intro K7 hK7;refine seqR (S As (nil ?_));refine block ?_;refine loopH (TA 0 KeepsT.nil) (fun(z:Nat×Nat)=>[(3,.a (.d (.int .i64 ((z.2:Nat):Int))))]) (fun z=>H) (fun z=>z.1) (fun z=>Z60_l10 a0 z.1 z.2=some r) ((a0.l.length+1),0) hE Weak.toA ?_;rintro ⟨n10,s3_11⟩ hE K10 hK10;try dsimp only at hE
  cases n10 with
  | zero=>cases hE
  | succ n10 =>
    rw [Z60_l10] at hE;refine seqK fun K12 hK12=>?_;refine seqR (S Mv (S Mv ?_));refine sLen (f:=Z4.c) (s:=a0) (TK rfl) rfl rfl rfl rfl fun hL14=>?_;refine S BI (nil ?_);refine cE hE (fun hc15 hE=>?_) (fun hc15 hE=>?_)
    ·try dsimp only at hc15
     have hf15:=of_decide_eq_true hc15;refine sk hK12 ?_;clear hK12 K12;refine seqK fun K16 hK16=>?_;refine block ?_;refine seqR (S Mv (S Mv ?_));obtain⟨x18,gx18,hE⟩:=bO hE;refine S (ix Z4.c s3_11 gx18) (S Fv (S Ld ?_));obtain⟨x19,gx19,hE⟩:=bO hE;refine Sc rfl rfl (Z46_walk gx19) ?_;refine S NB (S Mv (G0 Mv (G0 Mv ?_)));obtain⟨x20,gx20,hE⟩:=gO hE;refine gC rfl rfl (fun hC=>ungdA (k:=26) rfl (ungdA (k:=27) rfl (idxMn (f:=Z4.c) (n:=s3_11) (TK rfl) rfl (TK rfl) rfl rfl rfl (gx20 hC)))) rfl ?_
     refine G1 28 rfl Fv ?_;refine G1 29 rfl Ld ?_;obtain⟨x21,gx21,hE⟩:=gO hE;refine Gc1 30 rfl rfl rfl rfl rfl (fun hC=>Z61_walk (gx21 hC)) ?_;refine G1 31 rfl NB ?_;refine S PO (S Mv (G0 Mv (G0 Mv ?_)));obtain⟨x22,gx22,hE⟩:=gO hE;refine gC rfl rfl (fun hC=>ungdA (k:=35) rfl (ungdA (k:=36) rfl (idxMn (f:=Z4.c) (n:=s3_11) (TK rfl) rfl (TK rfl) rfl rfl rfl (gx22 hC)))) rfl ?_;refine G1 37 rfl Fv ?_
     refine G1 38 rfl Ld ?_;obtain⟨x23,gx23,hE⟩:=gO hE;refine Gc1 39 rfl rfl rfl rfl rfl (fun hC=>Z55_walk (gx23 hC)) ?_;refine G1 40 rfl NB ?_;refine S PO (S Mv (G0 Mv (G0 Mv ?_)));obtain⟨x24,gx24,hE⟩:=gO hE;refine gC rfl rfl (fun hC=>ungdA (k:=44) rfl (ungdA (k:=45) rfl (idxMn (f:=Z4.c) (n:=s3_11) (TK rfl) rfl (TK rfl) rfl rfl rfl (gx24 hC)))) rfl ?_;refine G1 46 rfl Fv ?_;refine G1 47 rfl Ld ?_
     obtain⟨x25,gx25,hE⟩:=gO hE;refine Gc1 48 rfl rfl rfl rfl rfl (fun hC=>Z59_walk (gx25 hC)) ?_;refine G1 49 rfl NB ?_;refine S PO (nil ?_);refine cE hE (fun hc26 hE=>?_) (fun hc26 hE=>?_)
     ·refine seqR (S As (nil ?_));exact rt hE
     refine sk hK16 ?_;clear hK16 K16;refine region ?_;refine S Mv ?_;refine SI ?_;refine S As (nil ?_);exact hK10 _ (n10,(s3_11+1)) Weak.toA hE (Nat.lt_succ_self _)
    refine AWp.exit ?_;exact hK7 _ () Weak.toA hE
 rintro _ hE;try dsimp only at hE
 unfold Z60_j7 at hE;refine seqR (S As (nil ?_));exact rt hE
def Z62_j7  :Option Bool:=some true
def Z62_l10 (a0:(Sl Z7)) (a1:Bool) :Nat->Nat->Option Bool
 | 0,_=>none
 | n10+1,s5_11=>bif (decide (((s5_11:Nat):Int)<((a0.l.length:Nat):Int))) then((a0.l[s5_11]?).bind fun x18=>(Z46 x18.FName).bind fun x19=>guardO (!(!x19)) (a0.l[s5_11]?) Z7.zero fun x20=>guardO (!(!x19)) (Z59 x20.FDirs) false fun x21=>guardO ((!((!x19)||(!x21))&&a1)) (a0.l[s5_11]?) Z7.zero fun x22=>bif (((!x19)||(!x21))||(a1&&(decide ((0:Int)<((x22.FDirs.l.length:Nat):Int))))) then(some false) else((Z62_l10 a0 a1 n10) (s5_11+1))) else(Z62_j7   )
def Z62 (a0:(Sl Z7)) (a1:Bool):Option Bool:=bif ((decide (((a0.l.length:Nat):Int)<(1:Int)))||(decide ((64:Int)<((a0.l.length:Nat):Int)))) then(some false) else(Z62_l10 a0 a1 (a0.l.length+1) 0)
theorem Z62_walk {a0:Sl Z7}{a1:Bool}{w0:Option Nat}{r:Bool}(hE:Z62 a0 a1=some r) (H:Heap) :ACalls Tryz.prog 73 [.d (Sl.d 2 Z7.c w0 a0),.d (.bool a1)] H fun v h'=>v=.a (.d (.bool r))/\h'=H:=by
 unfold Z62 at hE;refine ACalls.oW 48 [.tmp 4] Tryz.call73 Tryz.func73 ?_;refine seqR (S As (nil ?_));refine seqK fun K2 hK2=>?_;refine seqR (S Mv ?_);refine sLen (f:=Z7.c) (s:=a0) (TK rfl) rfl rfl rfl rfl fun hL4=>?_;refine S BI (S Mv (G0 Mv ?_));refine gC rfl rfl (fun hC=>ungdA (k:=10) rfl (lenM' (f:=Z7.c) (s:=a0) (TK rfl) rfl rfl rfl)) rfl ?_;refine G1 11 rfl BI ?_;refine S PO (nil ?_);refine cE hE (fun hc5 hE=>?_) (fun hc5 hE=>?_)
 ·refine seqR (S As (nil ?_));exact rt hE
 refine sk hK2 ?_;clear hK2 K2;refine seqJH KeepsT.nil (fun(z:Unit)=>[]) (fun z=>H) (fun z=>Z62_j7 =some r) ?_ ?_
 ·intro K7 hK7;refine seqR (S As (nil ?_));refine block ?_;refine loopH (TA 0 (TA 1 KeepsT.nil)) (fun(z:Nat×Nat)=>[(5,.a (.d (.int .i64 ((z.2:Nat):Int))))]) (fun z=>H) (fun z=>z.1) (fun z=>Z62_l10 a0 a1 z.1 z.2=some r) ((a0.l.length+1),0) hE Weak.toA ?_;rintro ⟨n10,s5_11⟩ hE K10 hK10;try dsimp only at hE
  cases n10 with
  | zero=>cases hE
  | succ n10 =>
    rw [Z62_l10] at hE;refine seqK fun K12 hK12=>?_;refine seqR (S Mv (S Mv ?_));refine sLen (f:=Z7.c) (s:=a0) (TK rfl) rfl rfl rfl rfl fun hL14=>?_;refine S BI (nil ?_);refine cE hE (fun hc15 hE=>?_) (fun hc15 hE=>?_)
    ·try dsimp only at hc15
     have hf15:=of_decide_eq_true hc15;refine sk hK12 ?_;clear hK12 K12;refine seqK fun K16 hK16=>?_;refine block ?_;refine seqR (S Mv (S Mv ?_));obtain⟨x18,gx18,hE⟩:=bO hE;refine S (ix Z7.c s5_11 gx18) (S Fv (S Ld ?_));obtain⟨x19,gx19,hE⟩:=bO hE;refine Sc rfl rfl (Z46_walk gx19) ?_;refine S NB (S Mv (G0 Mv (G0 Mv ?_)));obtain⟨x20,gx20,hE⟩:=gO hE;refine gC rfl rfl (fun hC=>ungdA (k:=28) rfl (ungdA (k:=29) rfl (idxMn (f:=Z7.c) (n:=s5_11) (TK rfl) rfl (TK rfl) rfl rfl rfl (gx20 hC)))) rfl ?_
     refine G1 30 rfl Fv ?_;refine G1 31 rfl Ld ?_;obtain⟨x21,gx21,hE⟩:=gO hE;refine Gc1 32 rfl rfl rfl rfl rfl (fun hC=>Z59_walk (gx21 hC)) ?_;refine G1 33 rfl NB ?_;refine S PO (S Mv (G0 Mv ?_));refine G1 37 rfl Mv ?_;refine G0 Mv (G0 Mv ?_);obtain⟨x22,gx22,hE⟩:=gO hE;refine gC rfl rfl (fun hC=>ungdA (k:=39) rfl (ungdA (k:=40) rfl (idxMn (f:=Z7.c) (n:=s5_11) (TK rfl) rfl (TK rfl) rfl rfl rfl (gx22 hC)))) rfl ?_
     refine G1 41 rfl Fv ?_;refine G1 42 rfl Ld ?_;refine gC rfl rfl (fun hC=>ungdA (k:=43) rfl (lenM' (f:=TDir.c) (s:=x22.FDirs) (TK rfl) rfl rfl rfl)) rfl ?_;refine G1 44 rfl BI ?_;refine gC rfl rfl (fun hC=>ungdA (k:=38) rfl (pickAndA rfl rfl rfl)) rfl ?_;refine S PO (nil ?_);refine cE hE (fun hc23 hE=>?_) (fun hc23 hE=>?_)
     ·refine seqR (S As (nil ?_));exact rt hE
     refine sk hK16 ?_;clear hK16 K16;refine region ?_;refine S Mv ?_;refine SI ?_;refine S As (nil ?_);exact hK10 _ (n10,(s5_11+1)) Weak.toA hE (Nat.lt_succ_self _)
    refine AWp.exit ?_;exact hK7 _ () Weak.toA hE
 rintro _ hE;try dsimp only at hE
 unfold Z62_j7 at hE;refine seqR (S As (nil ?_));exact rt hE
def Z58_j8 (a0:TDef)  :Option Bool:=bif (decide (a0.FKind=(1:Int))) then((Z60 a0.FFields).bind fun x15=>some ((x15&&(decide (((a0.FMembers.l.length:Nat):Int)=(0:Int))))&&(decide (((a0.FInputs.l.length:Nat):Int)=(0:Int))))) else(bif (decide (a0.FKind=(2:Int))) then(guardO ((decide (((a0.FImplements.l.length:Nat):Int)=(0:Int)))) (Z60 a0.FFields) false fun x19=>some ((((decide (((a0.FImplements.l.length:Nat):Int)=(0:Int)))&&x19)&&(decide (((a0.FMembers.l.length:Nat):Int)=(0:Int))))&&(decide (((a0.FInputs.l.length:Nat):Int)=(0:Int))))) else(bif (decide (a0.FKind=(3:Int))) then(guardO (((decide (((a0.FImplements.l.length:Nat):Int)=(0:Int)))&&(decide (((a0.FFields.l.length:Nat):Int)=(0:Int))))) (Z62 a0.FMembers true) false fun x23=>some ((((decide (((a0.FImplements.l.length:Nat):Int)=(0:Int)))&&(decide (((a0.FFields.l.length:Nat):Int)=(0:Int))))&&x23)&&(decide (((a0.FInputs.l.length:Nat):Int)=(0:Int))))) else(bif (decide (a0.FKind=(4:Int))) then(guardO (((decide (((a0.FImplements.l.length:Nat):Int)=(0:Int)))&&(decide (((a0.FFields.l.length:Nat):Int)=(0:Int))))) (Z62 a0.FMembers false) false fun x27=>some ((((decide (((a0.FImplements.l.length:Nat):Int)=(0:Int)))&&(decide (((a0.FFields.l.length:Nat):Int)=(0:Int))))&&x27)&&(decide (((a0.FInputs.l.length:Nat):Int)=(0:Int))))) else(bif (decide (a0.FKind=(5:Int))) then(guardO (((((decide (((a0.FImplements.l.length:Nat):Int)=(0:Int)))&&(decide (((a0.FFields.l.length:Nat):Int)=(0:Int))))&&(decide (((a0.FMembers.l.length:Nat):Int)=(0:Int))))&&(decide ((0:Int)<((a0.FInputs.l.length:Nat):Int))))) (Z61 a0.FInputs) false fun x31=>some (((((decide (((a0.FImplements.l.length:Nat):Int)=(0:Int)))&&(decide (((a0.FFields.l.length:Nat):Int)=(0:Int))))&&(decide (((a0.FMembers.l.length:Nat):Int)=(0:Int))))&&(decide ((0:Int)<((a0.FInputs.l.length:Nat):Int))))&&x31)) else(some false)))))
def Z58_l34 (a0:TDef) :Nat->Nat->Option Bool
 | 0,_=>none
 | n34+1,s3_35=>bif (decide (((s3_35:Nat):Int)<((a0.FImplements.l.length:Nat):Int))) then((a0.FImplements.l[s3_35]?).bind fun x42=>(Z46 x42).bind fun x43=>bif (!x43) then(some false) else((Z58_l34 a0 n34) (s3_35+1))) else(Z58_j8 a0  )
def Z58 (a0:TDef):Option Bool:=(Z46 a0.FName).bind fun x4=>guardO (!(!x4)) (Z59 a0.FDirs) false fun x5=>bif (((!x4)||(!x5))||(decide ((64:Int)<((a0.FImplements.l.length:Nat):Int)))) then(some false) else(Z58_l34 a0 (a0.FImplements.l.length+1) 0)
theorem Z58_walk {a0:TDef}{r:Bool}(hE:Z58 a0=some r) (H:Heap) :ACalls Tryz.prog 39 [.agg (TDef.c a0)] H fun v h'=>v=.a (.d (.bool r))/\h'=H:=by
 unfold Z58 at hE;refine ACalls.oW 129 [.tmp 2] Tryz.call39 Tryz.func39 ?_;refine seqR (S BX (S As (nil ?_)));refine seqK fun K2 hK2=>?_;refine seqR (S Fv (S Ld ?_));obtain⟨x4,gx4,hE⟩:=bO hE;refine Sc rfl rfl (Z46_walk gx4) ?_;refine S NB (S Mv (G0 Fv ?_));refine G1 13 rfl Ld ?_;obtain⟨x5,gx5,hE⟩:=gO hE;refine Gc1 14 rfl rfl rfl rfl rfl (fun hC=>Z59_walk (gx5 hC)) ?_;refine G1 15 rfl NB ?_;refine S PO (S Mv (G0 Fv ?_))
 refine G1 19 rfl Ld ?_;refine gC rfl rfl (fun hC=>ungdA (k:=20) rfl (lenM' (f:=strE) (s:=a0.FImplements) (TK rfl) rfl rfl rfl)) rfl ?_;refine G1 21 rfl BI ?_;refine S PO (nil ?_);refine cE hE (fun hc6 hE=>?_) (fun hc6 hE=>?_)
 ·refine seqR (S As (nil ?_));exact rt hE
 refine sk hK2 ?_;clear hK2 K2;refine seqJH (TA 1 KeepsT.nil) (fun(z:Unit)=>[]) (fun z=>H) (fun z=>Z58_j8 a0 =some r) ?_ ?_
 ·intro K8 hK8;refine seqR (S As (nil ?_));refine block ?_;refine loopH (TA 1 KeepsT.nil) (fun(z:Nat×Nat)=>[(3,.a (.d (.int .i64 ((z.2:Nat):Int))))]) (fun z=>H) (fun z=>z.1) (fun z=>Z58_l34 a0 z.1 z.2=some r) ((a0.FImplements.l.length+1),0) hE Weak.toA ?_;rintro ⟨n34,s3_35⟩ hE K34 hK34;try dsimp only at hE
  cases n34 with
  | zero=>cases hE
  | succ n34 =>
    rw [Z58_l34] at hE;refine seqK fun K36 hK36=>?_;refine seqR (S Mv (S Fv (S Ld ?_)));refine sLen (f:=strE) (s:=a0.FImplements) (TK rfl) rfl rfl rfl rfl fun hL38=>?_;refine S BI (nil ?_);refine cE hE (fun hc39 hE=>?_) (fun hc39 hE=>?_)
    ·try dsimp only at hc39
     have hf39:=of_decide_eq_true hc39;refine sk hK36 ?_;clear hK36 K36;refine seqK fun K40 hK40=>?_;refine block ?_;refine seqR (S Fv (S Ld (S Mv ?_)));obtain⟨x42,gx42,hE⟩:=bO hE;refine S (ix strE s3_35 gx42) (S Ld ?_);obtain⟨x43,gx43,hE⟩:=bO hE;refine Sc rfl rfl (Z46_walk gx43) ?_;refine S NB (nil ?_);refine cE hE (fun hc44 hE=>?_) (fun hc44 hE=>?_)
     ·refine seqR (S As (nil ?_));exact rt hE
     refine sk hK40 ?_;clear hK40 K40;refine region ?_;refine S Mv ?_;refine SI ?_;refine S As (nil ?_);exact hK34 _ (n34,(s3_35+1)) Weak.toA hE (Nat.lt_succ_self _)
    refine AWp.exit ?_;exact hK8 _ () Weak.toA hE
 rintro _ hE;try dsimp only at hE
 unfold Z58_j8 at hE;refine AWp.seqD (Sd Fv (Sd Ld ?_));refine DOps.s0 (lenM' (f:=strE) (s:=a0.FImplements) (TK rfl) rfl rfl rfl) rfl ?_;refine Sd BI (Sd Fv (Sd Ld ?_));refine DOps.s0 (lenM' (f:=Z4.c) (s:=a0.FFields) (TK rfl) rfl rfl rfl) rfl ?_;refine Sd BI (Sd Fv (Sd Ld ?_));refine DOps.s0 (lenM' (f:=Z7.c) (s:=a0.FMembers) (TK rfl) rfl rfl rfl) rfl ?_;refine Sd BI (Sd Fv (Sd Ld ?_));refine DOps.s0 (lenM' (f:=Z6.c) (s:=a0.FInputs) (TK rfl) rfl rfl rfl) rfl ?_
 refine Sd BI (Sd As (Sd As (Sd As (Sd As ?_))));refine DOps.nil (by decide +kernel) ?_;refine seqK fun K10 hK10=>?_;refine seqR (S Fv (S Ld (nil ?_)));refine block ?_;refine seqR (S BI (S As (nil ?_)));refine cE hE (fun hc13 hE=>?_) (fun hc13 hE=>?_)
 ·refine seqR (S Fv (S Ld ?_));obtain⟨x15,gx15,hE⟩:=bO hE;refine Sc rfl rfl (Z60_walk gx15) ?_;refine S Mv (G0 Mv (S PA (S Mv (G0 Mv (S PA (S As (nil ?_)))))));exact rt hE
 refine seqR (S BI (S As (nil ?_)));refine cE hE (fun hc17 hE=>?_) (fun hc17 hE=>?_)
 ·refine seqR (S Mv (S Mv (G0 Fv ?_)));refine G1 71 rfl Ld ?_;obtain⟨x19,gx19,hE⟩:=gO hE;refine Gc1 72 rfl rfl rfl rfl rfl (fun hC=>Z60_walk (gx19 hC)) ?_;refine S PA (S Mv (G0 Mv (S PA (S Mv (G0 Mv (S PA (S As (nil ?_))))))));exact rt hE
 refine seqR (S BI (S As (nil ?_)));refine cE hE (fun hc21 hE=>?_) (fun hc21 hE=>?_)
 ·refine seqR (S Mv (S Mv (G0 Mv (S PA (S Mv (G0 Fv ?_))))));refine G1 88 rfl Ld ?_;obtain⟨x23,gx23,hE⟩:=gO hE;refine Gc1 89 rfl rfl rfl rfl rfl (fun hC=>Z62_walk (gx23 hC)) ?_;refine S PA (S Mv (G0 Mv (S PA (S As (nil ?_)))));exact rt hE
 refine seqR (S BI (S As (nil ?_)));refine cE hE (fun hc25 hE=>?_) (fun hc25 hE=>?_)
 ·refine seqR (S Mv (S Mv (G0 Mv (S PA (S Mv (G0 Fv ?_))))));refine G1 102 rfl Ld ?_;obtain⟨x27,gx27,hE⟩:=gO hE;refine Gc1 103 rfl rfl rfl rfl rfl (fun hC=>Z62_walk (gx27 hC)) ?_;refine S PA (S Mv (G0 Mv (S PA (S As (nil ?_)))));exact rt hE
 refine seqR (S BI (S As (nil ?_)));refine cE hE (fun hc29 hE=>?_) (fun hc29 hE=>?_)
 ·refine seqR (S Mv (S Mv (G0 Mv (S PA (S Mv (G0 Mv (S PA (S Mv (G0 Fv ?_)))))))));refine G1 119 rfl Ld ?_;refine gC rfl rfl (fun hC=>ungdA (k:=120) rfl (lenM' (f:=Z6.c) (s:=a0.FInputs) (TK rfl) rfl rfl rfl)) rfl ?_;refine G1 121 rfl BI ?_;refine S PA (S Mv (G0 Fv ?_));refine G1 125 rfl Ld ?_;obtain⟨x31,gx31,hE⟩:=gO hE;refine Gc1 126 rfl rfl rfl rfl rfl (fun hC=>Z61_walk (gx31 hC)) ?_;refine S PA (S As (nil ?_))
  exact rt hE
 refine sk hK10 ?_;clear hK10 K10;refine seqR (S As (nil ?_));exact rt hE
end Go.Proofs

namespace Go.Proofs
open Go Go.Ab
open AOps Cert AWp Keeps KeepsT
variable {lou:Lou}
def Z56_j7  :Option Bool:=some true
def Z56_l10 (a0:TDoc) :Nat->Nat->Option Bool
 | 0,_=>none
 | n10+1,s3_11=>bif (decide (((s3_11:Nat):Int)<((a0.FDefs.l.length:Nat):Int))) then((a0.FDefs.l[s3_11]?).bind fun x18=>(Z58 x18).bind fun x19=>bif (!x19) then(some false) else((Z56_l10 a0 n10) (s3_11+1))) else(Z56_j7   )
def Z56 (a0:TDoc):Option Bool:=bif ((decide (((a0.FDefs.l.length:Nat):Int)<(1:Int)))||(decide ((64:Int)<((a0.FDefs.l.length:Nat):Int)))) then(some false) else(Z56_l10 a0 (a0.FDefs.l.length+1) 0)
theorem Z56_walk {a0:TDoc}{r:Bool}(hE:Z56 a0=some r) (H:Heap) :ACalls Tryz.prog 17 [.agg (TDoc.c a0)] H fun v h'=>v=.a (.d (.bool r))/\h'=H:=by
 unfold Z56 at hE;refine ACalls.oW 28 [.tmp 2] Tryz.call17 Tryz.func17 ?_;refine seqR (S BX (S As (nil ?_)));refine seqK fun K2 hK2=>?_;refine seqR (S Fv (S Ld ?_));refine sLen (f:=TDef.c) (s:=a0.FDefs) (TK rfl) rfl rfl rfl rfl fun hL4=>?_;refine S BI (S Mv (G0 Fv ?_));refine G1 9 rfl Ld ?_;refine gC rfl rfl (fun hC=>ungdA (k:=10) rfl (lenM' (f:=TDef.c) (s:=a0.FDefs) (TK rfl) rfl rfl rfl)) rfl ?_;refine G1 11 rfl BI ?_
 refine S PO (nil ?_);refine cE hE (fun hc5 hE=>?_) (fun hc5 hE=>?_)
 ·refine seqR (S As (nil ?_));exact rt hE
 refine sk hK2 ?_;clear hK2 K2;refine seqJH KeepsT.nil (fun(z:Unit)=>[]) (fun z=>H) (fun z=>Z56_j7 =some r) ?_ ?_
 ·intro K7 hK7;refine seqR (S As (nil ?_));refine block ?_;refine loopH (TA 1 KeepsT.nil) (fun(z:Nat×Nat)=>[(3,.a (.d (.int .i64 ((z.2:Nat):Int))))]) (fun z=>H) (fun z=>z.1) (fun z=>Z56_l10 a0 z.1 z.2=some r) ((a0.FDefs.l.length+1),0) hE Weak.toA ?_;rintro ⟨n10,s3_11⟩ hE K10 hK10;try dsimp only at hE
  cases n10 with
  | zero=>cases hE
  | succ n10 =>
    rw [Z56_l10] at hE;refine seqK fun K12 hK12=>?_;refine seqR (S Mv (S Fv (S Ld ?_)));refine sLen (f:=TDef.c) (s:=a0.FDefs) (TK rfl) rfl rfl rfl rfl fun hL14=>?_;refine S BI (nil ?_);refine cE hE (fun hc15 hE=>?_) (fun hc15 hE=>?_)
    ·try dsimp only at hc15
     have hf15:=of_decide_eq_true hc15;refine sk hK12 ?_;clear hK12 K12;refine seqK fun K16 hK16=>?_;refine block ?_;refine seqR (S Fv (S Ld (S Mv ?_)));obtain⟨x18,gx18,hE⟩:=bO hE;refine S (ix TDef.c s3_11 gx18) (S Ld ?_);obtain⟨x19,gx19,hE⟩:=bO hE;refine Sc rfl rfl (Z58_walk gx19) ?_;refine S NB (nil ?_);refine cE hE (fun hc20 hE=>?_) (fun hc20 hE=>?_)
     ·refine seqR (S As (nil ?_));exact rt hE
     refine sk hK16 ?_;clear hK16 K16;refine region ?_;refine S Mv ?_;refine SI ?_;refine S As (nil ?_);exact hK10 _ (n10,(s3_11+1)) Weak.toA hE (Nat.lt_succ_self _)
    refine AWp.exit ?_;exact hK7 _ () Weak.toA hE
 rintro _ hE;try dsimp only at hE
 unfold Z56_j7 at hE;refine seqR (S As (nil ?_));exact rt hE
def Z67_j2 (a0:Z9)  :Option Bool:=some (!decide (a0.FKind=(7:Int)))
def Z67_l5 (a0:Z9) (k_rec_79:Z9->Option Bool):Nat->Nat->Option Bool
 | 0,_=>none
 | n5+1,s3_6=>bif (decide (((s3_6:Nat):Int)<((a0.FItems.l.length:Nat):Int))) then((a0.FItems.l[s3_6]?).bind fun x13=>(k_rec_79 x13).bind fun x14=>bif (!x14) then(some false) else((Z67_l5 a0 k_rec_79 n5) (s3_6+1))) else(Z67_j2 a0  )
def Z67_n:Nat->Z9->Option Bool
 | 0,_=>none
 | n+1,a0=>Z67_l5 a0 (Z67_n n) (a0.FItems.l.length+1) 0
theorem Z67_step (n:Nat) (ih_79:∀{a0:Z9}{r:Bool},Z67_n n a0=some r->∀(H:Heap),ACalls Tryz.prog 79 [.agg (Z9.c a0)] H fun v h'=>v=.a (.d (.bool r))/\h'=H):∀{a0:Z9}{r:Bool},Z67_n (n+1) a0=some r->∀(H:Heap),ACalls Tryz.prog 79 [.agg (Z9.c a0)] H fun v h'=>v=.a (.d (.bool r))/\h'=H:=by
 intro a0   r hE H ;rw [Z67_n] at hE;refine ACalls.oW 21 [.tmp 2] Tryz.call79 Tryz.func79 ?_;refine seqR (S BX (S As (nil ?_)));refine seqJH (TA 1 KeepsT.nil) (fun(z:Unit)=>[]) (fun z=>H) (fun z=>Z67_j2 a0 =some r) ?_ ?_
 ·intro K2 hK2;refine seqR (S As (nil ?_));refine block ?_;refine loopH (TA 1 KeepsT.nil) (fun(z:Nat×Nat)=>[(3,.a (.d (.int .i64 ((z.2:Nat):Int))))]) (fun z=>H) (fun z=>z.1) (fun z=>Z67_l5 a0 (Z67_n n) z.1 z.2=some r) ((a0.FItems.l.length+1),0) hE Weak.toA ?_;rintro ⟨n5,s3_6⟩ hE K5 hK5;try dsimp only at hE
  cases n5 with
  | zero=>cases hE
  | succ n5 =>
    rw [Z67_l5] at hE;refine seqK fun K7 hK7=>?_;refine seqR (S Mv (S Fv ?_));refine s0 (loadV (TK rfl) rfl rfl (congrArg (fun x=>some (A.d x)) (Z9.FItemsD_eq _))) rfl ?_;refine sLen (f:=Z9.c) (s:=a0.FItems) (TK rfl) rfl rfl rfl rfl fun hL9=>?_;refine S BI (nil ?_);refine cE hE (fun hc10 hE=>?_) (fun hc10 hE=>?_)
    ·try dsimp only at hc10
     have hf10:=of_decide_eq_true hc10;refine sk hK7 ?_;clear hK7 K7;refine seqK fun K11 hK11=>?_;refine block ?_;refine seqR (S Fv ?_);refine s0 (loadV (TK rfl) rfl rfl (congrArg (fun x=>some (A.d x)) (Z9.FItemsD_eq _))) rfl ?_;refine S Mv ?_;obtain⟨x13,gx13,hE⟩:=bO hE;refine S (ix Z9.c s3_6 gx13) (S Ld ?_);obtain⟨x14,gx14,hE⟩:=bO hE;refine Sc rfl rfl (ih_79 gx14) ?_;refine S NB (nil ?_);refine cE hE (fun hc15 hE=>?_) (fun hc15 hE=>?_)
     ·refine seqR (S As (nil ?_));exact rt hE
     refine sk hK11 ?_;clear hK11 K11;refine region ?_;refine S Mv ?_;refine SI ?_;refine S As (nil ?_);exact hK5 _ (n5,(s3_6+1)) Weak.toA hE (Nat.lt_succ_self _)
    refine AWp.exit ?_;exact hK2 _ () Weak.toA hE
 rintro _ hE;try dsimp only at hE
 unfold Z67_j2 at hE;refine seqR (S Fv (S Ld (S BI (S As (nil ?_)))));exact rt hE
theorem Z67_all:∀(n:Nat),(∀{a0:Z9}{r:Bool},Z67_n n a0=some r->∀(H:Heap),ACalls Tryz.prog 79 [.agg (Z9.c a0)] H fun v h'=>v=.a (.d (.bool r))/\h'=H)
 | 0=>fun hE=>by first|cases hE|(rw [Z67_n] at hE; cases hE)
 | n+1=>Z67_step n (Z67_all n)
def Z67 (a0:Z9):Option Bool:=Z67_n F0 a0
theorem Z67_walk {a0:Z9}{r:Bool}(hE:Z67 a0=some r) (H:Heap) :ACalls Tryz.prog 79 [.agg (Z9.c a0)] H fun v h'=>v=.a (.d (.bool r))/\h'=H:=(Z67_all F0) hE H 
def Z71_j2 (a0:(Sl TVar))  :Option Bool:=some (decide (((a0.l.length:Nat):Int)<=(16:Int)))
def Z71_l6 (a0:(Sl TVar)) :Nat->Nat->Option Bool
 | 0,_=>none
 | n6+1,s3_7=>bif (decide (((s3_7:Nat):Int)<((a0.l.length:Nat):Int))) then((a0.l[s3_7]?).bind fun x14=>(Z46 x14.FName).bind fun x17=>guardO (!(!x17)) (Z55 x14.FType) false fun x18=>guardO (!((!x17)||(!x18))) (Z50 x14.FDefault) false fun x19=>guardO (!(((!x17)||(!x18))||(!x19))) (Z67 x14.FDefault) false fun x20=>bif ((((!x17)||(!x18))||(!x19))||(!x20)) then(some false) else(bif ((!x14.FHas)&&(!decide (x14.FDefault.FKind=(0:Int)))) then(some false) else((Z71_l6 a0 n6) (s3_7+1)))) else(Z71_j2 a0  )
def Z71 (a0:(Sl TVar)):Option Bool:=Z71_l6 a0 (a0.l.length+1) 0
theorem Z71_walk {a0:Sl TVar}{w0:Option Nat}{r:Bool}(hE:Z71 a0=some r) (H:Heap) :ACalls Tryz.prog 41 [.d (Sl.d 9 TVar.c w0 a0)] H fun v h'=>v=.a (.d (.bool r))/\h'=H:=by
 unfold Z71 at hE;refine ACalls.oW 49 [.tmp 2] Tryz.call41 Tryz.func41 ?_;refine seqR (S As (nil ?_));refine seqJH (TA 0 KeepsT.nil) (fun(z:Unit)=>[]) (fun z=>H) (fun z=>Z71_j2 a0 =some r) ?_ ?_
 ·intro K2 hK2;refine seqR (S As (nil ?_));refine block ?_;refine loopH (TA 0 KeepsT.nil) (fun(z:Nat×Nat)=>[(3,.a (.d (.int .i64 ((z.2:Nat):Int))))]) (fun z=>H) (fun z=>z.1) (fun z=>Z71_l6 a0 z.1 z.2=some r) ((a0.l.length+1),0) hE Weak.toA ?_;rintro ⟨n6,s3_7⟩ hE K6 hK6;try dsimp only at hE
  cases n6 with
  | zero=>cases hE
  | succ n6 =>
    rw [Z71_l6] at hE;refine seqK fun K8 hK8=>?_;refine seqR (S Mv (S Mv ?_));refine sLen (f:=TVar.c) (s:=a0) (TK rfl) rfl rfl rfl rfl fun hL10=>?_;refine S BI (nil ?_);refine cE hE (fun hc11 hE=>?_) (fun hc11 hE=>?_)
    ·try dsimp only at hc11
     have hf11:=of_decide_eq_true hc11;refine sk hK8 ?_;clear hK8 K8;refine seqK fun K12 hK12=>?_;refine block ?_;refine seqR (S Mv (S Mv ?_));obtain⟨x14,gx14,hE⟩:=bO hE;refine S (ix TVar.c s3_7 gx14) (S Ld ?_);refine Sl ?_;refine Sf ?_;refine nil ?_;refine freezeA 4 _ rfl (KA 0 (KA 3 Keeps.nil)) ?_;refine seqK fun K15 hK15=>?_;refine seqR (S Fv (S Ld ?_));obtain⟨x17,gx17,hE⟩:=bO hE;refine Sc rfl rfl (Z46_walk gx17) ?_
     refine S NB (S Mv (G0 Fv ?_));refine G1 20 rfl Ld ?_;obtain⟨x18,gx18,hE⟩:=gO hE;refine Gc1 21 rfl rfl rfl rfl rfl (fun hC=>Z55_walk (gx18 hC)) ?_;refine G1 22 rfl NB ?_;refine S PO (S Mv (G0 Fv ?_));refine G1 26 rfl Ld ?_;obtain⟨x19,gx19,hE⟩:=gO hE;refine Gc1 27 rfl rfl rfl rfl rfl (fun hC=>Z50_walk (gx19 hC)) ?_;refine G1 28 rfl NB ?_;refine S PO (S Mv (G0 Fv ?_));refine G1 32 rfl Ld ?_;obtain⟨x20,gx20,hE⟩:=gO hE
     refine Gc1 33 rfl rfl rfl rfl rfl (fun hC=>Z67_walk (gx20 hC)) ?_;refine G1 34 rfl NB ?_;refine S PO (nil ?_);refine cE hE (fun hc21 hE=>?_) (fun hc21 hE=>?_)
     ·refine seqR (S As (nil ?_));exact rt hE
     refine sk hK15 ?_;clear hK15 K15;refine seqR (S Fv (S Ld (S NB (S Mv (G0 Fv ?_)))));refine G1 41 rfl Fv ?_;refine G1 42 rfl Ld ?_;refine G1 43 rfl BI ?_;refine S PA (nil ?_);refine cE hE (fun hc24 hE=>?_) (fun hc24 hE=>?_)
     ·refine seqR (S As (nil ?_));exact rt hE
     refine sk hK12 ?_;clear hK12 K12;refine region ?_;refine S Mv ?_;refine SI ?_;refine S As (nil ?_);exact hK6 _ (n6,(s3_7+1)) Weak.toA hE (Nat.lt_succ_self _)
    refine AWp.exit ?_;exact hK2 _ () Weak.toA hE
 rintro _ hE;try dsimp only at hE
 unfold Z71_j2 at hE;refine seqR (S Mv ?_);refine sLen (f:=TVar.c) (s:=a0) (TK rfl) rfl rfl rfl rfl fun hL4=>?_;refine S BI (S As (nil ?_));exact rt hE
def Z70 (a0:Bs):Option Bool:=(Z46 a0).bind fun x3=>some (x3&&(!(a0==([111,110]:Bs))))
theorem Z70_walk {a0:Bs}{r:Bool}(hE:Z70 a0=some r) (H:Heap) :ACalls Tryz.prog 43 [.d (.str a0)] H fun v h'=>v=.a (.d (.bool r))/\h'=H:=by
 unfold Z70 at hE;refine ACalls.oW 9 [.tmp 2] Tryz.call43 Tryz.func43 ?_;refine seqR (S As (nil ?_));refine seqR (S Mv ?_);obtain⟨x3,gx3,hE⟩:=bO hE;refine Sc rfl rfl (Z46_walk gx3) ?_;refine S Mv (G0 Mv ?_);refine G1 6 rfl BS ?_;refine S PA (S As (nil ?_));exact rt hE
def Z66_j2 (a0:(Sl TArg))  :Option Bool:=some (decide (((a0.l.length:Nat):Int)<=(16:Int)))
def Z66_l6 (a0:(Sl TArg)) :Nat->Nat->Option Bool
 | 0,_=>none
 | n6+1,s3_7=>bif (decide (((s3_7:Nat):Int)<((a0.l.length:Nat):Int))) then((a0.l[s3_7]?).bind fun x14=>(Z46 x14.FName).bind fun x15=>guardO (!(!x15)) (a0.l[s3_7]?) TArg.zero fun x16=>guardO (!(!x15)) (Z50 x16.FValue) false fun x17=>bif ((!x15)||(!x17)) then(some false) else((Z66_l6 a0 n6) (s3_7+1))) else(Z66_j2 a0  )
def Z66 (a0:(Sl TArg)):Option Bool:=Z66_l6 a0 (a0.l.length+1) 0
theorem Z66_walk {a0:Sl TArg}{w0:Option Nat}{r:Bool}(hE:Z66 a0=some r) (H:Heap) :ACalls Tryz.prog 105 [.d (Sl.d 6 TArg.c w0 a0)] H fun v h'=>v=.a (.d (.bool r))/\h'=H:=by
 unfold Z66 at hE;refine ACalls.oW 29 [.tmp 2] Tryz.call105 Tryz.func105 ?_;refine seqR (S As (nil ?_));refine seqJH (TA 0 KeepsT.nil) (fun(z:Unit)=>[]) (fun z=>H) (fun z=>Z66_j2 a0 =some r) ?_ ?_
 ·intro K2 hK2;refine seqR (S As (nil ?_));refine block ?_;refine loopH (TA 0 KeepsT.nil) (fun(z:Nat×Nat)=>[(3,.a (.d (.int .i64 ((z.2:Nat):Int))))]) (fun z=>H) (fun z=>z.1) (fun z=>Z66_l6 a0 z.1 z.2=some r) ((a0.l.length+1),0) hE Weak.toA ?_;rintro ⟨n6,s3_7⟩ hE K6 hK6;try dsimp only at hE
  cases n6 with
  | zero=>cases hE
  | succ n6 =>
    rw [Z66_l6] at hE;refine seqK fun K8 hK8=>?_;refine seqR (S Mv (S Mv ?_));refine sLen (f:=TArg.c) (s:=a0) (TK rfl) rfl rfl rfl rfl fun hL10=>?_;refine S BI (nil ?_);refine cE hE (fun hc11 hE=>?_) (fun hc11 hE=>?_)
    ·try dsimp only at hc11
     have hf11:=of_decide_eq_true hc11;refine sk hK8 ?_;clear hK8 K8;refine seqK fun K12 hK12=>?_;refine block ?_;refine seqR (S Mv (S Mv ?_));obtain⟨x14,gx14,hE⟩:=bO hE;refine S (ix TArg.c s3_7 gx14) (S Fv (S Ld ?_));obtain⟨x15,gx15,hE⟩:=bO hE;refine Sc rfl rfl (Z46_walk gx15) ?_;refine S NB (S Mv (G0 Mv (G0 Mv ?_)));obtain⟨x16,gx16,hE⟩:=gO hE;refine gC rfl rfl (fun hC=>ungdA (k:=18) rfl (ungdA (k:=19) rfl (idxMn (f:=TArg.c) (n:=s3_7) (TK rfl) rfl (TK rfl) rfl rfl rfl (gx16 hC)))) rfl ?_
     refine G1 20 rfl Fv ?_;refine G1 21 rfl Ld ?_;obtain⟨x17,gx17,hE⟩:=gO hE;refine Gc1 22 rfl rfl rfl rfl rfl (fun hC=>Z50_walk (gx17 hC)) ?_;refine G1 23 rfl NB ?_;refine S PO (nil ?_);refine cE hE (fun hc18 hE=>?_) (fun hc18 hE=>?_)
     ·refine seqR (S As (nil ?_));exact rt hE
     refine sk hK12 ?_;clear hK12 K12;refine region ?_;refine S Mv ?_;refine SI ?_;refine S As (nil ?_);exact hK6 _ (n6,(s3_7+1)) Weak.toA hE (Nat.lt_succ_self _)
    refine AWp.exit ?_;exact hK2 _ () Weak.toA hE
 rintro _ hE;try dsimp only at hE
 unfold Z66_j2 at hE;refine seqR (S Mv ?_);refine sLen (f:=TArg.c) (s:=a0) (TK rfl) rfl rfl rfl rfl fun hL4=>?_;refine S BI (S As (nil ?_));exact rt hE
def Z68_j2 (a0:(Sl TDir))  :Option Bool:=some (decide (((a0.l.length:Nat):Int)<=(16:Int)))
def Z68_l6 (a0:(Sl TDir)) :Nat->Nat->Option Bool
 | 0,_=>none
 | n6+1,s3_7=>bif (decide (((s3_7:Nat):Int)<((a0.l.length:Nat):Int))) then((a0.l[s3_7]?).bind fun x14=>(Z46 x14.FName).bind fun x15=>guardO (!(!x15)) (a0.l[s3_7]?) TDir.zero fun x16=>guardO (!(!x15)) (Z66 x16.FArgs) false fun x17=>bif ((!x15)||(!x17)) then(some false) else((Z68_l6 a0 n6) (s3_7+1))) else(Z68_j2 a0  )
def Z68 (a0:(Sl TDir)):Option Bool:=Z68_l6 a0 (a0.l.length+1) 0
theorem Z68_walk {a0:Sl TDir}{w0:Option Nat}{r:Bool}(hE:Z68 a0=some r) (H:Heap) :ACalls Tryz.prog 104 [.d (Sl.d 2 TDir.c w0 a0)] H fun v h'=>v=.a (.d (.bool r))/\h'=H:=by
 unfold Z68 at hE;refine ACalls.oW 29 [.tmp 2] Tryz.call104 Tryz.func104 ?_;refine seqR (S As (nil ?_));refine seqJH (TA 0 KeepsT.nil) (fun(z:Unit)=>[]) (fun z=>H) (fun z=>Z68_j2 a0 =some r) ?_ ?_
 ·intro K2 hK2;refine seqR (S As (nil ?_));refine block ?_;refine loopH (TA 0 KeepsT.nil) (fun(z:Nat×Nat)=>[(3,.a (.d (.int .i64 ((z.2:Nat):Int))))]) (fun z=>H) (fun z=>z.1) (fun z=>Z68_l6 a0 z.1 z.2=some r) ((a0.l.length+1),0) hE Weak.toA ?_;rintro ⟨n6,s3_7⟩ hE K6 hK6;try dsimp only at hE
  cases n6 with
  | zero=>cases hE
  | succ n6 =>
    rw [Z68_l6] at hE;refine seqK fun K8 hK8=>?_;refine seqR (S Mv (S Mv ?_));refine sLen (f:=TDir.c) (s:=a0) (TK rfl) rfl rfl rfl rfl fun hL10=>?_;refine S BI (nil ?_);refine cE hE (fun hc11 hE=>?_) (fun hc11 hE=>?_)
    ·try dsimp only at hc11
     have hf11:=of_decide_eq_true hc11;refine sk hK8 ?_;clear hK8 K8;refine seqK fun K12 hK12=>?_;refine block ?_;refine seqR (S Mv (S Mv ?_));obtain⟨x14,gx14,hE⟩:=bO hE;refine S (ix TDir.c s3_7 gx14) (S Fv (S Ld ?_));obtain⟨x15,gx15,hE⟩:=bO hE;refine Sc rfl rfl (Z46_walk gx15) ?_;refine S NB (S Mv (G0 Mv (G0 Mv ?_)));obtain⟨x16,gx16,hE⟩:=gO hE;refine gC rfl rfl (fun hC=>ungdA (k:=18) rfl (ungdA (k:=19) rfl (idxMn (f:=TDir.c) (n:=s3_7) (TK rfl) rfl (TK rfl) rfl rfl rfl (gx16 hC)))) rfl ?_
     refine G1 20 rfl Fv ?_;refine G1 21 rfl Ld ?_;obtain⟨x17,gx17,hE⟩:=gO hE;refine Gc1 22 rfl rfl rfl rfl rfl (fun hC=>Z66_walk (gx17 hC)) ?_;refine G1 23 rfl NB ?_;refine S PO (nil ?_);refine cE hE (fun hc18 hE=>?_) (fun hc18 hE=>?_)
     ·refine seqR (S As (nil ?_));exact rt hE
     refine sk hK12 ?_;clear hK12 K12;refine region ?_;refine S Mv ?_;refine SI ?_;refine S As (nil ?_);exact hK6 _ (n6,(s3_7+1)) Weak.toA hE (Nat.lt_succ_self _)
    refine AWp.exit ?_;exact hK2 _ () Weak.toA hE
 rintro _ hE;try dsimp only at hE
 unfold Z68_j2 at hE;refine seqR (S Mv ?_);refine sLen (f:=TDir.c) (s:=a0) (TK rfl) rfl rfl rfl rfl fun hL4=>?_;refine S BI (S As (nil ?_));exact rt hE
end Go.Proofs

namespace Go.Proofs
open Go Go.Ab
open AOps Cert AWp Keeps KeepsT
variable {lou:Lou}
def r08_selsRight_j7  :Option Bool:=some true
def r08_selsRight_l10 (a0:(Sl TSel)) (a1:Int) (k_rec_80:TSel->Int->Option Bool):Nat->Nat->Option Bool
 | 0,_=>none
 | n10+1,s5_11=>bif (decide (((s5_11:Nat):Int)<((a0.l.length:Nat):Int))) then((a0.l[s5_11]?).bind fun x18=>(k_rec_80 x18 a1).bind fun x19=>bif (!x19) then(some false) else((r08_selsRight_l10 a0 a1 k_rec_80 n10) (s5_11+1))) else(r08_selsRight_j7   )
mutual
def r08_selsRight_n:Nat->(Sl TSel)->Int->Option Bool
 | 0,_,_=>none
 | n+1,a0,a1=>bif (((decide (((a0.l.length:Nat):Int)=(0:Int)))||(decide ((64:Int)<((a0.l.length:Nat):Int))))||(decide ((24:Int)<a1))) then(some false) else(r08_selsRight_l10 a0 a1 (Z69_n n) (a0.l.length+1) 0)
def Z69_n:Nat->TSel->Int->Option Bool
 | 0,_,_=>none
 | n+1,a0,a1=>(Z68 a0.FDirs).bind fun x4=>guardO (!(!x4)) (Z66 a0.FArgs) false fun x5=>bif ((!x4)||(!x5)) then(some false) else(bif (decide (a0.FKind=(1:Int))) then((Z46 a0.FName).bind fun x13=>guardO ((x13&&!((a0.FAlias==([]:Bs))))) (Z46 a0.FAlias) false fun x14=>guardO ((((x13&&(((a0.FAlias==([]:Bs)))||x14))&&((a0.FOn==([]:Bs))))&&!(decide (((a0.FSels.l.length:Nat):Int)=(0:Int))))) (addC a1 (1:Int)) (0:Int) fun x15=>guardO ((((x13&&(((a0.FAlias==([]:Bs)))||x14))&&((a0.FOn==([]:Bs))))&&!(decide (((a0.FSels.l.length:Nat):Int)=(0:Int))))) ((r08_selsRight_n n) a0.FSels x15) false fun x16=>some (((x13&&(((a0.FAlias==([]:Bs)))||x14))&&((a0.FOn==([]:Bs))))&&((decide (((a0.FSels.l.length:Nat):Int)=(0:Int)))||x16))) else(bif (decide (a0.FKind=(2:Int))) then((Z70 a0.FName).bind fun x20=>some ((((x20&&((a0.FAlias==([]:Bs))))&&((a0.FOn==([]:Bs))))&&(decide (((a0.FArgs.l.length:Nat):Int)=(0:Int))))&&(decide (((a0.FSels.l.length:Nat):Int)=(0:Int))))) else(bif (decide (a0.FKind=(3:Int))) then(guardO (((((a0.FName==([]:Bs)))&&((a0.FAlias==([]:Bs))))&&!((a0.FOn==([]:Bs))))) (Z46 a0.FOn) false fun x24=>guardO ((((((a0.FName==([]:Bs)))&&((a0.FAlias==([]:Bs))))&&(((a0.FOn==([]:Bs)))||x24))&&(decide (((a0.FArgs.l.length:Nat):Int)=(0:Int))))) (addC a1 (1:Int)) (0:Int) fun x25=>guardO ((((((a0.FName==([]:Bs)))&&((a0.FAlias==([]:Bs))))&&(((a0.FOn==([]:Bs)))||x24))&&(decide (((a0.FArgs.l.length:Nat):Int)=(0:Int))))) ((r08_selsRight_n n) a0.FSels x25) false fun x26=>some ((((((a0.FName==([]:Bs)))&&((a0.FAlias==([]:Bs))))&&(((a0.FOn==([]:Bs)))||x24))&&(decide (((a0.FArgs.l.length:Nat):Int)=(0:Int))))&&x26)) else(some false))))
end
theorem r08_selsRight_step (n:Nat) (ih_42:∀{a0:Sl TSel}{a1:Int}{w0:Option Nat}{r:Bool},r08_selsRight_n n a0 a1=some r->∀(H:Heap),ACalls Tryz.prog 42 [.d (Sl.d 7 TSel.c w0 a0),.d (.int .i64 a1)] H fun v h'=>v=.a (.d (.bool r))/\h'=H) (ih_80:∀{a0:TSel}{a1:Int}{r:Bool},Z69_n n a0 a1=some r->∀(H:Heap),ACalls Tryz.prog 80 [.agg (TSel.c a0),.d (.int .i64 a1)] H fun v h'=>v=.a (.d (.bool r))/\h'=H):∀{a0:Sl TSel}{a1:Int}{w0:Option Nat}{r:Bool},r08_selsRight_n (n+1) a0 a1=some r->∀(H:Heap),ACalls Tryz.prog 42 [.d (Sl.d 7 TSel.c w0 a0),.d (.int .i64 a1)] H fun v h'=>v=.a (.d (.bool r))/\h'=H:=by
 intro a0 a1 w0  r hE H ;rw [r08_selsRight_n] at hE;refine ACalls.oW 31 [.tmp 4] Tryz.call42 Tryz.func42 ?_;refine seqR (S As (nil ?_));refine seqK fun K2 hK2=>?_;refine seqR (S Mv ?_);refine sLen (f:=TSel.c) (s:=a0) (TK rfl) rfl rfl rfl rfl fun hL4=>?_;refine S BI (S Mv (G0 Mv ?_));refine gC rfl rfl (fun hC=>ungdA (k:=10) rfl (lenM' (f:=TSel.c) (s:=a0) (TK rfl) rfl rfl rfl)) rfl ?_;refine G1 11 rfl BI ?_
 refine S PO (S Mv (G0 Mv ?_));refine G1 15 rfl BI ?_;refine S PO (nil ?_);refine cE hE (fun hc5 hE=>?_) (fun hc5 hE=>?_)
 ·refine seqR (S As (nil ?_));exact rt hE
 refine sk hK2 ?_;clear hK2 K2;refine seqJH KeepsT.nil (fun(z:Unit)=>[]) (fun z=>H) (fun z=>r08_selsRight_j7 =some r) ?_ ?_
 ·intro K7 hK7;refine seqR (S As (nil ?_));refine block ?_;refine loopH (TA 0 (TA 1 KeepsT.nil)) (fun(z:Nat×Nat)=>[(5,.a (.d (.int .i64 ((z.2:Nat):Int))))]) (fun z=>H) (fun z=>z.1) (fun z=>r08_selsRight_l10 a0 a1 (Z69_n n) z.1 z.2=some r) ((a0.l.length+1),0) hE Weak.toA ?_;rintro ⟨n10,s5_11⟩ hE K10 hK10;try dsimp only at hE
  cases n10 with
  | zero=>cases hE
  | succ n10 =>
    rw [r08_selsRight_l10] at hE;refine seqK fun K12 hK12=>?_;refine seqR (S Mv (S Mv ?_));refine sLen (f:=TSel.c) (s:=a0) (TK rfl) rfl rfl rfl rfl fun hL14=>?_;refine S BI (nil ?_);refine cE hE (fun hc15 hE=>?_) (fun hc15 hE=>?_)
    ·try dsimp only at hc15
     have hf15:=of_decide_eq_true hc15;refine sk hK12 ?_;clear hK12 K12;refine seqK fun K16 hK16=>?_;refine block ?_;refine seqR (S Mv (S Mv ?_));obtain⟨x18,gx18,hE⟩:=bO hE;refine S (ix TSel.c s5_11 gx18) (S Ld (S Mv ?_));obtain⟨x19,gx19,hE⟩:=bO hE;refine Sc rfl rfl (ih_80 gx19) ?_;refine S NB (nil ?_);refine cE hE (fun hc20 hE=>?_) (fun hc20 hE=>?_)
     ·refine seqR (S As (nil ?_));exact rt hE
     refine sk hK16 ?_;clear hK16 K16;refine region ?_;refine S Mv ?_;refine SI ?_;refine S As (nil ?_);exact hK10 _ (n10,(s5_11+1)) Weak.toA hE (Nat.lt_succ_self _)
    refine AWp.exit ?_;exact hK7 _ () Weak.toA hE
 rintro _ hE;try dsimp only at hE
 unfold r08_selsRight_j7 at hE;refine seqR (S As (nil ?_));exact rt hE
theorem Z69_step (n:Nat) (ih_42:∀{a0:Sl TSel}{a1:Int}{w0:Option Nat}{r:Bool},r08_selsRight_n n a0 a1=some r->∀(H:Heap),ACalls Tryz.prog 42 [.d (Sl.d 7 TSel.c w0 a0),.d (.int .i64 a1)] H fun v h'=>v=.a (.d (.bool r))/\h'=H) (ih_80:∀{a0:TSel}{a1:Int}{r:Bool},Z69_n n a0 a1=some r->∀(H:Heap),ACalls Tryz.prog 80 [.agg (TSel.c a0),.d (.int .i64 a1)] H fun v h'=>v=.a (.d (.bool r))/\h'=H):∀{a0:TSel}{a1:Int}{r:Bool},Z69_n (n+1) a0 a1=some r->∀(H:Heap),ACalls Tryz.prog 80 [.agg (TSel.c a0),.d (.int .i64 a1)] H fun v h'=>v=.a (.d (.bool r))/\h'=H:=by
 intro a0 a1   r hE H ;rw [Z69_n] at hE;refine ACalls.oW 110 [.tmp 4] Tryz.call80 Tryz.func80 ?_;refine seqR (S BX (S As (nil ?_)));refine seqK fun K2 hK2=>?_;refine seqR (S Fv (S Ld ?_));obtain⟨x4,gx4,hE⟩:=bO hE;refine Sc rfl rfl (Z68_walk gx4) ?_;refine S NB (S Mv (G0 Fv ?_));refine G1 10 rfl Ld ?_;obtain⟨x5,gx5,hE⟩:=gO hE;refine Gc1 11 rfl rfl rfl rfl rfl (fun hC=>Z66_walk (gx5 hC)) ?_;refine G1 12 rfl NB ?_
 refine S PO (nil ?_);refine cE hE (fun hc6 hE=>?_) (fun hc6 hE=>?_)
 ·refine seqR (S As (nil ?_));exact rt hE
 refine sk hK2 ?_;clear hK2 K2;refine seqK fun K8 hK8=>?_;refine seqR (S Fv (S Ld (nil ?_)));refine block ?_;refine seqR (S BI (S As (nil ?_)));refine cE hE (fun hc11 hE=>?_) (fun hc11 hE=>?_)
 ·refine seqR (S Fv (S Ld ?_));obtain⟨x13,gx13,hE⟩:=bO hE;refine Sc rfl rfl (Z46_walk gx13) ?_;refine S Mv (G0 Fv ?_);refine G1 23 rfl Ld ?_;refine G1 24 rfl BS ?_;refine G1 25 rfl Mv ?_;refine G0 Fv ?_;refine G1 27 rfl Ld ?_;obtain⟨x14,gx14,hE⟩:=gO hE;refine Gc1 28 rfl rfl rfl rfl rfl (fun hC=>Z46_walk (gx14 hC)) ?_;refine gC rfl rfl (fun hC=>ungdA (k:=26) rfl (pickOrA rfl rfl rfl)) rfl ?_;refine S PA (S Mv (G0 Fv ?_))
  refine G1 33 rfl Ld ?_;refine G1 34 rfl BS ?_;refine S PA (S Mv (G0 Fv ?_));refine gC rfl rfl (fun hC=>ungdA (k:=38) rfl (loadV (TK rfl) rfl rfl (congrArg (fun x=>some (A.d x)) (TSel.FSelsD_eq _)))) rfl ?_;refine gC rfl rfl (fun hC=>ungdA (k:=39) rfl (lenM' (f:=TSel.c) (s:=a0.FSels) (TK rfl) rfl rfl rfl)) rfl ?_;refine G1 40 rfl BI ?_;refine G1 41 rfl Mv ?_;refine G0 Fv ?_;refine gC rfl rfl (fun hC=>ungdA (k:=43) rfl (loadV (TK rfl) rfl rfl (congrArg (fun x=>some (A.d x)) (TSel.FSelsD_eq _)))) rfl ?_
  refine G0 Mv ?_;obtain⟨x15,gx15,hE⟩:=gO hE;refine gC rfl rfl (fun hC=>ungdA (k:=45) rfl (addM rfl rfl (gx15 hC))) rfl ?_;obtain⟨x16,gx16,hE⟩:=gO hE;refine Gc2 44 46 rfl rfl rfl rfl rfl rfl (fun hC=>ih_42 (gx16 hC)) ?_;refine gC rfl rfl (fun hC=>ungdA (k:=42) rfl (pickOrA rfl rfl rfl)) rfl ?_;refine S PA (S As (nil ?_));exact rt hE
 refine seqR (S BI (S As (nil ?_)));refine cE hE (fun hc18 hE=>?_) (fun hc18 hE=>?_)
 ·refine seqR (S Fv (S Ld ?_));obtain⟨x20,gx20,hE⟩:=bO hE;refine Sc rfl rfl (Z70_walk gx20) ?_;refine S Mv (G0 Fv ?_);refine G1 56 rfl Ld ?_;refine G1 57 rfl BS ?_;refine S PA (S Mv (G0 Fv ?_));refine G1 61 rfl Ld ?_;refine G1 62 rfl BS ?_;refine S PA (S Mv (G0 Fv ?_));refine G1 66 rfl Ld ?_;refine gC rfl rfl (fun hC=>ungdA (k:=67) rfl (lenM' (f:=TArg.c) (s:=a0.FArgs) (TK rfl) rfl rfl rfl)) rfl ?_
  refine G1 68 rfl BI ?_;refine S PA (S Mv (G0 Fv ?_));refine gC rfl rfl (fun hC=>ungdA (k:=72) rfl (loadV (TK rfl) rfl rfl (congrArg (fun x=>some (A.d x)) (TSel.FSelsD_eq _)))) rfl ?_;refine gC rfl rfl (fun hC=>ungdA (k:=73) rfl (lenM' (f:=TSel.c) (s:=a0.FSels) (TK rfl) rfl rfl rfl)) rfl ?_;refine G1 74 rfl BI ?_;refine S PA (S As (nil ?_));exact rt hE
 refine seqR (S BI (S As (nil ?_)));refine cE hE (fun hc22 hE=>?_) (fun hc22 hE=>?_)
 ·refine seqR (S Fv (S Ld (S BS (S Mv (G0 Fv ?_)))));refine G1 83 rfl Ld ?_;refine G1 84 rfl BS ?_;refine S PA (S Mv (G0 Fv ?_));refine G1 88 rfl Ld ?_;refine G1 89 rfl BS ?_;refine G1 90 rfl Mv ?_;refine G0 Fv ?_;refine G1 92 rfl Ld ?_;obtain⟨x24,gx24,hE⟩:=gO hE;refine Gc1 93 rfl rfl rfl rfl rfl (fun hC=>Z46_walk (gx24 hC)) ?_;refine gC rfl rfl (fun hC=>ungdA (k:=91) rfl (pickOrA rfl rfl rfl)) rfl ?_
  refine S PA (S Mv (G0 Fv ?_));refine G1 98 rfl Ld ?_;refine gC rfl rfl (fun hC=>ungdA (k:=99) rfl (lenM' (f:=TArg.c) (s:=a0.FArgs) (TK rfl) rfl rfl rfl)) rfl ?_;refine G1 100 rfl BI ?_;refine S PA (S Mv (G0 Fv ?_));refine gC rfl rfl (fun hC=>ungdA (k:=104) rfl (loadV (TK rfl) rfl rfl (congrArg (fun x=>some (A.d x)) (TSel.FSelsD_eq _)))) rfl ?_;refine G0 Mv ?_;obtain⟨x25,gx25,hE⟩:=gO hE;refine gC rfl rfl (fun hC=>ungdA (k:=106) rfl (addM rfl rfl (gx25 hC))) rfl ?_
  obtain⟨x26,gx26,hE⟩:=gO hE;refine Gc2 105 107 rfl rfl rfl rfl rfl rfl (fun hC=>ih_42 (gx26 hC)) ?_;refine S PA (S As (nil ?_));exact rt hE
 refine sk hK8 ?_;clear hK8 K8;refine seqR (S As (nil ?_));exact rt hE
theorem r08_selsRight_all:∀(n:Nat),(∀{a0:Sl TSel}{a1:Int}{w0:Option Nat}{r:Bool},r08_selsRight_n n a0 a1=some r->∀(H:Heap),ACalls Tryz.prog 42 [.d (Sl.d 7 TSel.c w0 a0),.d (.int .i64 a1)] H fun v h'=>v=.a (.d (.bool r))/\h'=H)/\(∀{a0:TSel}{a1:Int}{r:Bool},Z69_n n a0 a1=some r->∀(H:Heap),ACalls Tryz.prog 80 [.agg (TSel.c a0),.d (.int .i64 a1)] H fun v h'=>v=.a (.d (.bool r))/\h'=H)
 | 0=>⟨fun hE=>by first|cases hE|(rw [r08_selsRight_n] at hE; cases hE),fun hE=>by first|cases hE|(rw [Z69_n] at hE; cases hE)⟩
 | n+1=>⟨r08_selsRight_step n (r08_selsRight_all n).1 (r08_selsRight_all n).2,Z69_step n (r08_selsRight_all n).1 (r08_selsRight_all n).2⟩
def r08_selsRight (a0:(Sl TSel)) (a1:Int):Option Bool:=r08_selsRight_n F0 a0 a1
theorem r08_selsRight_walk {a0:Sl TSel}{a1:Int}{w0:Option Nat}{r:Bool}(hE:r08_selsRight a0 a1=some r) (H:Heap) :ACalls Tryz.prog 42 [.d (Sl.d 7 TSel.c w0 a0),.d (.int .i64 a1)] H fun v h'=>v=.a (.d (.bool r))/\h'=H:=(r08_selsRight_all F0).1 hE H 
def Z65_j11  :Option Bool:=some true
def Z65_l14 (a0:Z8) :Nat->Nat->Option Bool
 | 0,_=>none
 | n14+1,s6_15=>bif (decide (((s6_15:Nat):Int)<((a0.FFrags.l.length:Nat):Int))) then((a0.FFrags.l[s6_15]?).bind fun x22=>(Z70 x22.FName).bind fun x24=>guardO (!(!x24)) (Z46 x22.FOn) false fun x25=>guardO (!((!x24)||(!x25))) (r08_selsRight x22.FSels (1:Int)) false fun x26=>bif (((!x24)||(!x25))||(!x26)) then(some false) else((Z65_l14 a0 n14) (s6_15+1))) else(Z65_j11   )
def Z65_j10 (a0:Z8)  :Option Bool:=Z65_l14 a0 (a0.FFrags.l.length+1) 0
def Z65_l30 (a0:Z8) :Nat->Nat->Option Bool
 | 0,_=>none
 | n30+1,s4_31=>bif (decide (((s4_31:Nat):Int)<((a0.FOps.l.length:Nat):Int))) then((a0.FOps.l[s4_31]?).bind fun x38=>guardO ((!((decide (x38.FKind<(1:Int)))||(decide ((3:Int)<x38.FKind)))&&(!(x38.FName==([]:Bs))))) (Z46 x38.FName) false fun x40=>guardO (!(((decide (x38.FKind<(1:Int)))||(decide ((3:Int)<x38.FKind)))||((!(x38.FName==([]:Bs)))&&(!x40)))) (Z71 x38.FVars) false fun x41=>guardO (!((((decide (x38.FKind<(1:Int)))||(decide ((3:Int)<x38.FKind)))||((!(x38.FName==([]:Bs)))&&(!x40)))||(!x41))) (r08_selsRight x38.FSels (1:Int)) false fun x42=>bif (((((decide (x38.FKind<(1:Int)))||(decide ((3:Int)<x38.FKind)))||((!(x38.FName==([]:Bs)))&&(!x40)))||(!x41))||(!x42)) then(some false) else((Z65_l30 a0 n30) (s4_31+1))) else(Z65_j10 a0  )
def Z65 (a0:Z8):Option Bool:=(addC ((a0.FOps.l.length:Nat):Int) ((a0.FFrags.l.length:Nat):Int)).bind fun x5=>bif ((decide (x5<(1:Int)))||(decide ((64:Int)<x5))) then(some false) else(Z65_l30 a0 (a0.FOps.l.length+1) 0)
theorem Z65_walk {a0:Z8}{r:Bool}(hE:Z65 a0=some r) (H:Heap) :ACalls Tryz.prog 18 [.agg (Z8.c a0)] H fun v h'=>v=.a (.d (.bool r))/\h'=H:=by
 unfold Z65 at hE;refine ACalls.oW 92 [.tmp 2] Tryz.call18 Tryz.func18 ?_;refine seqR (S BX (S As (nil ?_)));refine seqR (S Fv (S Ld ?_));refine sLen (f:=TOp.c) (s:=a0.FOps) (TK rfl) rfl rfl rfl rfl fun hL3=>?_;refine S Fv (S Ld ?_);refine sLen (f:=Z5.c) (s:=a0.FFrags) (TK rfl) rfl rfl rfl rfl fun hL4=>?_;obtain⟨x5,gx5,hE⟩:=bO hE;refine s0 (addM rfl rfl gx5) rfl ?_;refine S As (nil ?_);refine seqK fun K6 hK6=>?_
 refine seqR (S Mv (S BI (S Mv (G0 Mv ?_))));refine G1 18 rfl BI ?_;refine S PO (nil ?_);refine cE hE (fun hc8 hE=>?_) (fun hc8 hE=>?_)
 ·refine seqR (S As (nil ?_));exact rt hE
 refine sk hK6 ?_;clear hK6 K6;refine seqJH (TA 1 KeepsT.nil) (fun(z:Unit)=>[]) (fun z=>H) (fun z=>Z65_j10 a0 =some r) ?_ ?_
 ·intro K10 hK10;refine seqR (S As (nil ?_));refine block ?_;refine loopH (TA 1 KeepsT.nil) (fun(z:Nat×Nat)=>[(4,.a (.d (.int .i64 ((z.2:Nat):Int))))]) (fun z=>H) (fun z=>z.1) (fun z=>Z65_l30 a0 z.1 z.2=some r) ((a0.FOps.l.length+1),0) hE Weak.toA ?_;rintro ⟨n30,s4_31⟩ hE K30 hK30;try dsimp only at hE
  cases n30 with
  | zero=>cases hE
  | succ n30 =>
    rw [Z65_l30] at hE;refine seqK fun K32 hK32=>?_;refine seqR (S Mv (S Fv (S Ld ?_)));refine sLen (f:=TOp.c) (s:=a0.FOps) (TK rfl) rfl rfl rfl rfl fun hL34=>?_;refine S BI (nil ?_);refine cE hE (fun hc35 hE=>?_) (fun hc35 hE=>?_)
    ·try dsimp only at hc35
     have hf35:=of_decide_eq_true hc35;refine sk hK32 ?_;clear hK32 K32;refine seqK fun K36 hK36=>?_;refine block ?_;refine seqR (S Fv (S Ld (S Mv ?_)));obtain⟨x38,gx38,hE⟩:=bO hE;refine S (ix TOp.c s4_31 gx38) (S Ld ?_);refine Sl ?_;refine Sf ?_;refine nil ?_;refine freezeA 5 _ rfl (KA 1 (KA 4 Keeps.nil)) ?_;refine seqR (S Fv (S Ld (S BI (S Mv (G0 Fv ?_)))));refine G1 37 rfl Ld ?_;refine G1 38 rfl BI ?_
     refine S PO (S Mv (G0 Fv ?_));refine G1 42 rfl Ld ?_;refine G1 43 rfl BS ?_;refine G1 44 rfl Mv ?_;refine G0 Fv ?_;refine G1 46 rfl Ld ?_;obtain⟨x40,gx40,hE⟩:=gO hE;refine Gc1 47 rfl rfl rfl rfl rfl (fun hC=>Z46_walk (gx40 hC)) ?_;refine G1 48 rfl NB ?_;refine gC rfl rfl (fun hC=>ungdA (k:=45) rfl (pickAndA rfl rfl rfl)) rfl ?_;refine S PO (S Mv (G0 Fv ?_));refine G1 53 rfl Ld ?_;obtain⟨x41,gx41,hE⟩:=gO hE
     refine Gc1 54 rfl rfl rfl rfl rfl (fun hC=>Z71_walk (gx41 hC)) ?_;refine G1 55 rfl NB ?_;refine S PO (S Mv (G0 Fv ?_));refine G1 59 rfl Ld ?_;obtain⟨x42,gx42,hE⟩:=gO hE;refine Gc1 60 rfl rfl rfl rfl rfl (fun hC=>r08_selsRight_walk (gx42 hC)) ?_;refine G1 61 rfl NB ?_;refine S PO (nil ?_);refine cE hE (fun hc43 hE=>?_) (fun hc43 hE=>?_)
     ·refine seqR (S As (nil ?_));exact rt hE
     refine sk hK36 ?_;clear hK36 K36;refine region ?_;refine S Mv ?_;refine SI ?_;refine S As (nil ?_);exact hK30 _ (n30,(s4_31+1)) Weak.toA hE (Nat.lt_succ_self _)
    refine AWp.exit ?_;exact hK10 _ () Weak.toA hE
 rintro _ hE;try dsimp only at hE
 unfold Z65_j10 at hE;refine seqJH KeepsT.nil (fun(z:Unit)=>[]) (fun z=>H) (fun z=>Z65_j11 =some r) ?_ ?_
 ·intro K11 hK11;refine seqR (S As (nil ?_));refine block ?_;refine loopH (TA 1 KeepsT.nil) (fun(z:Nat×Nat)=>[(6,.a (.d (.int .i64 ((z.2:Nat):Int))))]) (fun z=>H) (fun z=>z.1) (fun z=>Z65_l14 a0 z.1 z.2=some r) ((a0.FFrags.l.length+1),0) hE Weak.toA ?_;rintro ⟨n14,s6_15⟩ hE K14 hK14;try dsimp only at hE
  cases n14 with
  | zero=>cases hE
  | succ n14 =>
    rw [Z65_l14] at hE;refine seqK fun K16 hK16=>?_;refine seqR (S Mv (S Fv (S Ld ?_)));refine sLen (f:=Z5.c) (s:=a0.FFrags) (TK rfl) rfl rfl rfl rfl fun hL18=>?_;refine S BI (nil ?_);refine cE hE (fun hc19 hE=>?_) (fun hc19 hE=>?_)
    ·try dsimp only at hc19
     have hf19:=of_decide_eq_true hc19;refine sk hK16 ?_;clear hK16 K16;refine seqK fun K20 hK20=>?_;refine block ?_;refine seqR (S Fv (S Ld (S Mv ?_)));obtain⟨x22,gx22,hE⟩:=bO hE;refine S (ix Z5.c s6_15 gx22) (S Ld ?_);refine Sl ?_;refine Sf ?_;refine nil ?_;refine freezeA 7 _ rfl (KA 1 (KA 6 Keeps.nil)) ?_;refine seqR (S Fv (S Ld ?_));obtain⟨x24,gx24,hE⟩:=bO hE;refine Sc rfl rfl (Z70_walk gx24) ?_
     refine S NB (S Mv (G0 Fv ?_));refine G1 81 rfl Ld ?_;obtain⟨x25,gx25,hE⟩:=gO hE;refine Gc1 82 rfl rfl rfl rfl rfl (fun hC=>Z46_walk (gx25 hC)) ?_;refine G1 83 rfl NB ?_;refine S PO (S Mv (G0 Fv ?_));refine G1 87 rfl Ld ?_;obtain⟨x26,gx26,hE⟩:=gO hE;refine Gc1 88 rfl rfl rfl rfl rfl (fun hC=>r08_selsRight_walk (gx26 hC)) ?_;refine G1 89 rfl NB ?_;refine S PO (nil ?_);refine cE hE (fun hc27 hE=>?_) (fun hc27 hE=>?_)
     ·refine seqR (S As (nil ?_));exact rt hE
     refine sk hK20 ?_;clear hK20 K20;refine region ?_;refine S Mv ?_;refine SI ?_;refine S As (nil ?_);exact hK14 _ (n14,(s6_15+1)) Weak.toA hE (Nat.lt_succ_self _)
    refine AWp.exit ?_;exact hK11 _ () Weak.toA hE
 rintro _ hE;try dsimp only at hE
 unfold Z65_j11 at hE;refine seqR (S As (nil ?_));exact rt hE
def Z44 (a0:TDoc) (a1:Z8):Option Bool:=(Z73 a0).bind fun x3=>guardO ((!x3)) (Z64 a1) false fun x4=>guardO (((!x3)&&(!x4))) (Z56 a0) false fun x5=>guardO ((((!x3)&&(!x4))&&x5)) (Z65 a1) false fun x6=>some ((((!x3)&&(!x4))&&x5)&&x6)
theorem Z44_walk {a0:TDoc}{a1:Z8}{r:Bool}(hE:Z44 a0 a1=some r) (H:Heap) :ACalls Tryz.prog 4 [.agg (TDoc.c a0),.agg (Z8.c a1)] H fun v h'=>v=.a (.d (.bool r))/\h'=H:=by
 unfold Z44 at hE;refine ACalls.oW 21 [.tmp 4] Tryz.call4 Tryz.func4 ?_;refine seqR (S BX (S BX (S As (nil ?_))));refine seqR (S Ld ?_);obtain⟨x3,gx3,hE⟩:=bO hE;refine Sc rfl rfl (Z73_walk gx3) ?_;refine S NB (S Mv (G0 Ld ?_));obtain⟨x4,gx4,hE⟩:=gO hE;refine Gc1 9 rfl rfl rfl rfl rfl (fun hC=>Z64_walk (gx4 hC)) ?_;refine G1 10 rfl NB ?_;refine S PA (S Mv (G0 Ld ?_));obtain⟨x5,gx5,hE⟩:=gO hE;refine Gc1 14 rfl rfl rfl rfl rfl (fun hC=>Z56_walk (gx5 hC)) ?_
 refine S PA (S Mv (G0 Ld ?_));obtain⟨x6,gx6,hE⟩:=gO hE;refine Gc1 18 rfl rfl rfl rfl rfl (fun hC=>Z65_walk (gx6 hC)) ?_;refine S PA (S As (nil ?_));exact rt hE
def Z84 (a0:Z2) (a1:Bool) (a2:Int) (a3:Bs):Option Z2:=bif a1 then((appC 24 a0.Ffaults (⟨false,[(Z3.mk a2 a3)]⟩:Sl Z3)).bind fun x3=>some (Z2.mk a0.Fd x3)) else(some a0)
theorem Z84_walk {a0:Z2}{a1:Bool}{a2:Int}{a3:Bs}{c0 c0_1:Nat}{r:Z2}(hE:Z84 a0 a1 a2 a3=some r) (H:Heap) (hc0:H c0=some (.cells (Z2.cg (some c0_1) a0))) (ht0_1:H c0_1=some (.tok 2 a0.Ffaults.l.length)):ACalls Tryz.prog 21 [.d (.ptr c0 0),.d (.bool a1),.d (.int .i64 a2),.d (.str a3)] H fun v h'=>v=.tup []/\h'=((H.set c0_1 (some (.tok 2 r.Ffaults.l.length))).set c0 (some (.cells (Z2.cg (some c0_1) r)))):=by
 unfold Z84 at hE;refine ACalls.oW 21 [] Tryz.call21 Tryz.func21 ?_;have ne_c0_c0_1:c0≠c0_1:=fun e_=>by subst e_; simp_all
 refine AWp.heqA (h':=((H.set c0_1 (some (.tok 2 a0.Ffaults.l.length))).set c0 (some (.cells (Z2.cg (some c0_1) a0))))) (by funext n_; simp only [Heap.set]; (repeat' split)<;>simp_all) ?_;refine seqR (S Mv (nil ?_));refine cE hE (fun hc2 hE=>?_) (fun hc2 hE=>?_)
 ·refine region ?_;refine S Mv (S Mv (S NP ?_));refine s0 (fieldP (TK rfl) rfl rfl (TK rfl) rfl rfl) rfl ?_;refine s0 (loadP (TK rfl) rfl rfl hpG rfl) rfl ?_;refine S Mv (S Mv (S BU (S BV ?_)));obtain⟨x3,gx3,hE⟩:=bO hE;refine SH (am Z3.c (TK rfl) rfl (TK rfl) (TK rfl) gx3) ?_;refine hq ((H.set c0_1 (some (.tok 2 x3.l.length))).set c0 (some (.cells (Z2.cg (some c0_1) a0)))) ?_;refine S NP ?_;refine s0 (fieldP (TK rfl) rfl rfl (TK rfl) rfl rfl) rfl ?_
  refine sHn (storeP1 (TK rfl) rfl rfl hpG rfl (by repeat (first|exact SetAt.zero|apply SetAt.succ))) rfl rfl ?_;refine hq ((H.set c0_1 (some (.tok 2 x3.l.length))).set c0 (some (.cells (Z2.cg (some c0_1) (Z2.mk a0.Fd x3))))) ?_;refine nil ?_;repeat (first|refine xBlock_normal ?_|refine xThen_exit ?_|refine xBlock_exit ?_)
  obtain rfl:=Option.some.inj hE;refine retQ.normalF ((H.set c0_1 (some (.tok 2 x3.l.length))).set c0 (some (.cells (Z2.cg (some c0_1) (Z2.mk a0.Fd x3))))) (xs:=[]) rfl ⟨rfl,rfl⟩ ?_;exact(fun _ _ h=>h)
 refine AWp.skip ?_;repeat (first|refine xBlock_normal ?_|refine xThen_exit ?_|refine xBlock_exit ?_)
 obtain rfl:=Option.some.inj hE;refine retQ.normalF ((H.set c0_1 (some (.tok 2 a0.Ffaults.l.length))).set c0 (some (.cells (Z2.cg (some c0_1) a0)))) (xs:=[]) rfl ⟨rfl,rfl⟩ ?_;exact(fun _ _ h=>h)
def Z112_j8  :Option Bool:=some true
def Z112_l12 (a0:Bs) :Nat->Nat->Option Bool
 | 0,_=>none
 | n12+1,s24_13=>bif (decide (((s24_13:Nat):Int)<((a0.length:Nat):Int))) then((a0[s24_13]?).bind fun x20=>bif (!(((((decide ((97:Int)<=((x20.toNat:Nat):Int)))&&(decide (((x20.toNat:Nat):Int)<=(122:Int))))||((decide ((65:Int)<=((x20.toNat:Nat):Int)))&&(decide (((x20.toNat:Nat):Int)<=(90:Int)))))||((decide ((48:Int)<=((x20.toNat:Nat):Int)))&&(decide (((x20.toNat:Nat):Int)<=(57:Int)))))||(decide (((x20.toNat:Nat):Int)=(95:Int))))) then(some false) else((Z112_l12 a0 n12) (s24_13+1))) else(Z112_j8   )
def Z112 (a0:Bs):Option Bool:=guardO (!(((a0==([]:Bs)))||(decide ((64:Int)<((a0.length:Nat):Int))))) (a0[0]?) (0:UInt8) fun x4=>guardO ((!(((a0==([]:Bs)))||(decide ((64:Int)<((a0.length:Nat):Int))))&&(decide ((48:Int)<=((x4.toNat:Nat):Int))))) (a0[0]?) (0:UInt8) fun x5=>bif ((((a0==([]:Bs)))||(decide ((64:Int)<((a0.length:Nat):Int))))||((decide ((48:Int)<=((x4.toNat:Nat):Int)))&&(decide (((x5.toNat:Nat):Int)<=(57:Int))))) then(some false) else(Z112_l12 a0 (a0.length+1) 0)
theorem Z112_walk {a0:Bs}{r:Bool}(hE:Z112 a0=some r) (H:Heap) :ACalls Tryz.prog 44 [.d (.str a0)] H fun v h'=>v=.a (.d (.bool r))/\h'=H:=by
 unfold Z112 at hE;refine ACalls.oW 58 [.tmp 2] Tryz.call44 Tryz.func44 ?_;refine seqR (S As (nil ?_));refine seqK fun K2 hK2=>?_;refine seqR (S Mv (S BS (S Mv (G0 Mv ?_))));refine gC rfl rfl (fun hC=>ungdA (k:=8) rfl (lenS (TK rfl) rfl rfl rfl)) rfl ?_;refine G1 9 rfl BI ?_;refine S PO (S Mv (G0 Mv ?_));obtain⟨x4,gx4,hE⟩:=gO hE;refine gC rfl rfl (fun hC=>ungdA (k:=13) rfl (idxSn (n:=0) (TK rfl) rfl rfl rfl (gx4 hC))) rfl ?_
 refine G1 14 rfl BI ?_;refine G1 15 rfl Mv ?_;refine G0 Mv ?_;obtain⟨x5,gx5,hE⟩:=gO hE;refine gC rfl rfl (fun hC=>ungdA (k:=17) rfl (idxSn (n:=0) (TK rfl) rfl rfl rfl (gx5 hC))) rfl ?_;refine G1 18 rfl BI ?_;refine gC rfl rfl (fun hC=>ungdA (k:=16) rfl (pickAndA rfl rfl rfl)) rfl ?_;refine S PO (nil ?_);refine cE hE (fun hc6 hE=>?_) (fun hc6 hE=>?_)
 ·refine seqR (S As (nil ?_));exact rt hE
 refine sk hK2 ?_;clear hK2 K2;refine seqJH KeepsT.nil (fun(z:Unit)=>[]) (fun z=>H) (fun z=>Z112_j8 =some r) ?_ ?_
 ·intro K8 hK8;refine seqR (S Mv ?_);refine sLenS (TK rfl) rfl rfl rfl rfl fun hL11=>?_;refine S Mv (nil ?_);refine block ?_;refine loopH (TA 0 (TA 23 KeepsT.nil)) (fun(z:Nat×Nat)=>[(24,.a (.d (.int .i64 ((z.2:Nat):Int))))]) (fun z=>H) (fun z=>z.1) (fun z=>Z112_l12 a0 z.1 z.2=some r) ((a0.length+1),0) hE Weak.toA ?_;rintro ⟨n12,s24_13⟩ hE K12 hK12;try dsimp only at hE
  cases n12 with
  | zero=>cases hE
  | succ n12 =>
    rw [Z112_l12] at hE;refine seqR (S BI (nil ?_));refine seqK fun K15 hK15=>?_;refine cE hE (fun hc16 hE=>?_) (fun hc16 hE=>?_)
    ·try dsimp only at hc16
     have hf16:=of_decide_eq_true hc16;refine sk hK15 ?_;clear hK15 K15;refine seqK fun K17 hK17=>?_;refine block ?_;refine seqR (S Mv (S As (nil ?_)));refine seqR (S Mv (S Mv ?_));obtain⟨x20,gx20,hE⟩:=bO hE;refine s0 (idxSn (n:=s24_13) (TK rfl) rfl rfl rfl gx20) rfl ?_;refine S As (nil ?_);refine seqR (S Mv (S BI (S Mv (G0 Mv ?_))));refine G1 33 rfl BI ?_;refine S PA (S Mv (G0 Mv ?_));refine G1 37 rfl BI ?_
     refine G1 38 rfl Mv ?_;refine G0 Mv ?_;refine G1 40 rfl BI ?_;refine gC rfl rfl (fun hC=>ungdA (k:=39) rfl (pickAndA rfl rfl rfl)) rfl ?_;refine S PO (S Mv (G0 Mv ?_));refine G1 45 rfl BI ?_;refine G1 46 rfl Mv ?_;refine G0 Mv ?_;refine G1 48 rfl BI ?_;refine gC rfl rfl (fun hC=>ungdA (k:=47) rfl (pickAndA rfl rfl rfl)) rfl ?_;refine S PO (S Mv (G0 Mv ?_));refine G1 53 rfl BI ?_;refine S PO (S NB (nil ?_))
     refine cE hE (fun hc22 hE=>?_) (fun hc22 hE=>?_)
     ·refine seqR (S As (nil ?_));exact rt hE
     refine sk hK17 ?_;clear hK17 K17;refine region ?_;refine SI ?_;refine S Mv (nil ?_);exact hK12 _ (n12,(s24_13+1)) Weak.toA hE (Nat.lt_succ_self _)
    refine AWp.exit ?_;exact hK8 _ () Weak.toA hE
 rintro _ hE;try dsimp only at hE
 unfold Z112_j8 at hE;refine seqR (S As (nil ?_));exact rt hE
end Go.Proofs

namespace Go.Proofs
open Go Go.Ab
open AOps Cert AWp Keeps KeepsT
variable {lou:Lou}
def Z40 (a0:Bs) (a1:Bs):Option Bool:=guardO ((decide (((a1.length:Nat):Int)<=((a0.length:Nat):Int)))) (cutC a0 none (some ((a1.length:Nat):Int))) ([]:Bs) fun x5=>some ((decide (((a1.length:Nat):Int)<=((a0.length:Nat):Int)))&&((x5==a1)))
theorem Z40_walk {a0 a1:Bs}{r:Bool}(hE:Z40 a0 a1=some r) (H:Heap) :ACalls Tryz.prog 106 [.d (.str a0),.d (.str a1)] H fun v h'=>v=.a (.d (.bool r))/\h'=H:=by
 unfold Z40 at hE;refine ACalls.oW 18 [.tmp 4] Tryz.call106 Tryz.func106 ?_;refine seqR (S As (nil ?_));refine seqR (S Mv ?_);refine sLenS (TK rfl) rfl rfl rfl rfl fun hL3=>?_;refine S Mv ?_;refine sLenS (TK rfl) rfl rfl rfl rfl fun hL4=>?_;refine S BI (S Mv (G0 Mv (G0 Mv ?_)));refine gC rfl rfl (fun hC=>ungdA (k:=12) rfl (lenS (TK rfl) rfl rfl rfl)) rfl ?_;obtain⟨x5,gx5,hE⟩:=gO hE;refine gC rfl rfl (fun hC=>ungdA (k:=11) rfl (ungdA (k:=13) rfl (cutM (l:=none) (r:=(some ((a1.length:Nat):Int))) (TK rfl) rfl rfl trivial rfl (by simp) (gx5 hC)))) rfl ?_
 refine G0 Mv ?_;refine G2 14 15 rfl rfl BS ?_;refine S PA (S As (nil ?_));exact rt hE
def Z111 (a0:Bs) (a1:Bs):Option Bool:=(Z40 a0 a1).bind fun x3=>some x3
theorem Z111_walk {a0 a1:Bs}{r:Bool}(hE:Z111 a0 a1=some r) (H:Heap) :ACalls Tryz.prog 81 [.d (.str a0),.d (.str a1)] H fun v h'=>v=.a (.d (.bool r))/\h'=H:=by
 unfold Z111 at hE;refine ACalls.oW 8 [.tmp 4] Tryz.call81 Tryz.func81 ?_;refine seqR (S As (nil ?_));refine seqR (S Mv (S Mv ?_));obtain⟨x3,gx3,hE⟩:=bO hE;refine Sc rfl rfl (Z40_walk gx3) ?_;refine S As (nil ?_);exact rt hE
def Z113 (a0:Bs):Option Bool:=(Z111 a0 ([95,95]:Bs)).bind fun x3=>some x3
theorem Z113_walk {a0:Bs}{r:Bool}(hE:Z113 a0=some r) (H:Heap) :ACalls Tryz.prog 45 [.d (.str a0)] H fun v h'=>v=.a (.d (.bool r))/\h'=H:=by
 unfold Z113 at hE;refine ACalls.oW 5 [.tmp 2] Tryz.call45 Tryz.func45 ?_;refine seqR (S As (nil ?_));refine seqR (S Mv ?_);obtain⟨x3,gx3,hE⟩:=bO hE;refine Sc rfl rfl (Z111_walk gx3) ?_;refine S As (nil ?_);exact rt hE
def Z83 (a0:Bs):Option Bool:=some (((((a0==([73,110,116]:Bs)))||((a0==([83,116,114,105,110,103]:Bs))))||((a0==([66,111,111,108,101,97,110]:Bs))))||((a0==([73,68]:Bs))))
theorem Z83_walk {a0:Bs}{r:Bool}(hE:Z83 a0=some r) (H:Heap) :ACalls Tryz.prog 46 [.d (.str a0)] H fun v h'=>v=.a (.d (.bool r))/\h'=H:=by
 unfold Z83 at hE;refine ACalls.oW 17 [.tmp 2] Tryz.call46 Tryz.func46 ?_;refine seqR (S As (nil ?_));refine seqR (S Mv (S BS (S Mv (G0 Mv ?_))));refine G1 6 rfl BS ?_;refine S PO (S Mv (G0 Mv ?_));refine G1 10 rfl BS ?_;refine S PO (S Mv (G0 Mv ?_));refine G1 14 rfl BS ?_;refine S PO (S As (nil ?_));exact rt hE
def Z78_j2  (y3_l0:TDef):Option (TDef×Bool):=some ((TDef.mk (0:Int) ([]:Bs) (Sl.nil:Sl Bs) (Sl.nil:Sl TDir) (Sl.nil:Sl Z4) (Sl.nil:Sl Z7) (Sl.nil:Sl Z6)),false)
def Z78_l7 (a0:TDoc) (a1:Bs) :Nat->Nat->TDef->Option (TDef×Bool)
 | 0,_,_=>none
 | n7+1,s11_8,y9_l0=>bif (decide (((s11_8:Nat):Int)<((a0.FDefs.l.length:Nat):Int))) then((a0.FDefs.l[s11_8]?).bind fun x15=>bif ((x15.FName==a1)) then(some (x15,true)) else((Z78_l7 a0 a1 n7) (s11_8+1) y9_l0)) else(Z78_j2   y9_l0)
def Z78 (a0:TDoc) (a1:Bs):Option (TDef×Bool):=Z78_l7 a0 a1 (a0.FDefs.l.length+1) 0 TDef.zero
theorem Z78_walk {a0:TDoc}{a1:Bs}{r:TDef×Bool}(hE:Z78 a0 a1=some r) (H:Heap) :ACalls Tryz.prog 20 [.agg (TDoc.c a0),.d (.str a1)] H fun v h'=>v=.tup [.agg (TDef.c r.1),.d (.bool r.2)]/\h'=H:=by
 unfold Z78 at hE;refine ACalls.oW 22 [.cell 4 62,.tmp 5] Tryz.call20 Tryz.func20 ?_;refine seqR (S BX ?_);refine Sl ?_;refine S As (nil ?_);refine seqJ (TA 4 KeepsT.nil) (fun(z:TDef)=>[]) (fun z=>[TDef.c z]) (fun z=>H) (fun z=>Z78_j2 z=some r) ?_ ?_
 ·intro K2 hK2;refine seqR (S Fv (S Ld ?_));refine sLen (f:=TDef.c) (s:=a0.FDefs) (TK rfl) rfl rfl rfl rfl fun hL6=>?_;refine S Mv (nil ?_);refine block ?_;refine loopO (TA 1 (TA 4 (TA 9 (TA 10 KeepsT.nil)))) (fun(z:Nat×Nat×TDef)=>[(11,.a (.d (.int .i64 ((z.2.1:Nat):Int))))]) (fun z=>[TDef.c z.2.2]) (fun z=>H) (fun z=>z.1) (fun z=>Z78_l7 a0 a1 z.1 z.2.1 z.2.2=some r) ((a0.FDefs.l.length+1),0,TDef.zero) hE Weak.toA ?_
  rintro ⟨n7,s11_8,y9_l0⟩ hE K7 hK7;try dsimp only at hE
  cases n7 with
  | zero=>cases hE
  | succ n7 =>
    rw [Z78_l7] at hE;refine seqR (S BI (nil ?_));refine seqK fun K11 hK11=>?_;refine cE hE (fun hc12 hE=>?_) (fun hc12 hE=>?_)
    ·try dsimp only at hc12
     have hf12:=of_decide_eq_true hc12;refine sk hK11 ?_;clear hK11 K11;refine seqK fun K13 hK13=>?_;refine block ?_;refine seqR ?_;obtain⟨x15,gx15,hE⟩:=bO hE;refine S (ix TDef.c s11_8 gx15) (S Ld ?_);refine Sl ?_;refine Sf ?_;refine nil ?_;refine freezeA 7 _ rfl (KA 1 (KA 4 (KA 9 (KA 10 (KA 11 Keeps.nil))))) ?_;refine seqR (S Fv (S Ld (S Mv (S BS (nil ?_)))));refine cE hE (fun hc17 hE=>?_) (fun hc17 hE=>?_)
     ·refine seqR (S Ld ?_);refine Sf ?_;refine S As (nil ?_);exact rt hE
     refine sk hK13 ?_;clear hK13 K13;refine region ?_;refine SI ?_;refine S Mv (nil ?_);exact hK7 _ (n7,(s11_8+1),y9_l0) Weak.toA hE (Nat.lt_succ_self _)
    refine AWp.exit ?_;exact hK2 _ y9_l0 Weak.toA hE
 rintro y3_l0 hE;try dsimp only at hE
 unfold Z78_j2 at hE;refine seqR (S BU ?_);refine Sf ?_;refine S As (nil ?_);exact rt hE
def Z89_j2  (y3_c3:(List Bs)):Option (Bool×(List Bs)):=some (false,y3_c3)
def Z89_j13 (s14_8:Nat) (k_next_7:Nat->(List Bs)->Option (Bool×(List Bs))) (y14_c3:(List Bs)):Option (Bool×(List Bs)):=k_next_7 (s14_8+1) y14_c3
def Z89_l7 (a0:TDef) (a1:TDef) (a2:Z2) (k_rec_82:TDef->TDef->Z2->(List Bs)->Option (Bool×(List Bs))):Nat->Nat->(List Bs)->Option (Bool×(List Bs))
 | 0,_,_=>none
 | n7+1,s14_8,y9_c3=>bif (decide (((s14_8:Nat):Int)<((a0.FInputs.l.length:Nat):Int))) then((a0.FInputs.l[s14_8]?).bind fun x16=>guardO (!(!decide (((x16.FType.FWraps.l.length:Nat):Int)=(1:Int)))) (x16.FType.FWraps.l[0]?) (0:Int) fun x20=>bif ((!decide (((x16.FType.FWraps.l.length:Nat):Int)=(1:Int)))||(!decide (x20=(1:Int)))) then(Z89_j13 s14_8 ((Z89_l7 a0 a1 a2 k_rec_82 n7)) y9_c3) else(bif ((x16.FType.FName==a1.FName)) then(some (true,y9_c3)) else((Z78 a2.Fd x16.FType.FName).bind fun x27=>bif ((x27.2&&(decide (x27.1.FKind=(5:Int))))&&(!(y9_c3.contains x27.1.FName))) then((k_rec_82 x27.1 a1 a2 (insS y9_c3 x27.1.FName)).bind fun x32=>bif x32.1 then(some (true,x32.2)) else(Z89_j13 s14_8 ((Z89_l7 a0 a1 a2 k_rec_82 n7)) x32.2)) else(Z89_j13 s14_8 ((Z89_l7 a0 a1 a2 k_rec_82 n7)) y9_c3)))) else(Z89_j2   y9_c3)
def Z89_n:Nat->TDef->TDef->Z2->(List Bs)->Option (Bool×(List Bs))
 | 0,_,_,_,_=>none
 | n+1,a0,a1,a2,a3=>Z89_l7 a0 a1 a2 (Z89_n n) (a0.FInputs.l.length+1) 0 a3
theorem Z89_step (n:Nat) (ih_82:∀{a0 a1:TDef}{a2:Z2}{a3:List Bs}{q2_1:Option Nat}{c2 c3 c4:Nat}{r:(Bool×(List Bs))},Z89_n n a0 a1 a2 a3=some r->∀(H:Heap) (hc2:H c2=some (.cells (Z2.cg q2_1 a2))) (hc3:H c3=some (.map (seenM a3))) (hc4:H c4=some (.cells [.func 82 [.view (TDef.c a1),.view [.ptr c2 0],.view [.map c3],.ptr c4 0]])),ACalls Tryz.prog 82 [.agg (TDef.c a0),.d (.view (TDef.c a1)),.d (.view [.ptr c2 0]),.d (.view [.map c3]),.d (.ptr c4 0)] H fun v h'=>v=.a (.d (.bool r.1))/\h'=(H.set c3 (some (.map (seenM r.2))))):∀{a0 a1:TDef}{a2:Z2}{a3:List Bs}{q2_1:Option Nat}{c2 c3 c4:Nat}{r:(Bool×(List Bs))},Z89_n (n+1) a0 a1 a2 a3=some r->∀(H:Heap) (hc2:H c2=some (.cells (Z2.cg q2_1 a2))) (hc3:H c3=some (.map (seenM a3))) (hc4:H c4=some (.cells [.func 82 [.view (TDef.c a1),.view [.ptr c2 0],.view [.map c3],.ptr c4 0]])),ACalls Tryz.prog 82 [.agg (TDef.c a0),.d (.view (TDef.c a1)),.d (.view [.ptr c2 0]),.d (.view [.map c3]),.d (.ptr c4 0)] H fun v h'=>v=.a (.d (.bool r.1))/\h'=(H.set c3 (some (.map (seenM r.2)))):=by
 intro a0 a1 a2 a3 q2_1 c2 c3 c4 r hE H hc2 hc3 hc4;rw [Z89_n] at hE;refine ACalls.oW 68 [.tmp 6] Tryz.call82 Tryz.func82 ?_;have ne_c3_c2:c3≠c2:=fun e_=>by subst e_; simp_all
 have ne_c4_c3:c4≠c3:=fun e_=>by subst e_; simp_all
 refine AWp.heqA (h':=(H.set c3 (some (.map (seenM a3))))) (by funext n_; simp only [Heap.set]; (repeat' split)<;>simp_all) ?_;refine seqR (S BX (S As (nil ?_)));refine seqJH KeepsT.nil (fun(z:(List Bs))=>[]) (fun z=>(H.set c3 (some (.map (seenM z))))) (fun z=>Z89_j2 z=some r) ?_ ?_
 ·intro K2 hK2;refine seqR (S Fv (S Ld ?_));refine sLen (f:=Z6.c) (s:=a0.FInputs) (TK rfl) rfl rfl rfl rfl fun hL6=>?_;refine S Mv (nil ?_);refine block ?_;refine loopH (TA 1 (TA 2 (TA 3 (TA 4 (TA 12 (TA 13 KeepsT.nil)))))) (fun(z:Nat×Nat×(List Bs))=>[(14,.a (.d (.int .i64 ((z.2.1:Nat):Int))))]) (fun z=>(H.set c3 (some (.map (seenM z.2.2))))) (fun z=>z.1) (fun z=>Z89_l7 a0 a1 a2 (Z89_n n) z.1 z.2.1 z.2.2=some r) ((a0.FInputs.l.length+1),0,a3) hE Weak.toA ?_
  rintro ⟨n7,s14_8,y9_c3⟩ hE K7 hK7;try dsimp only at hE
  cases n7 with
  | zero=>cases hE
  | succ n7 =>
    rw [Z89_l7] at hE;refine seqR (S BI (nil ?_));refine seqK fun K11 hK11=>?_;refine cE hE (fun hc12 hE=>?_) (fun hc12 hE=>?_)
    ·try dsimp only at hc12
     have hf12:=of_decide_eq_true hc12;refine sk hK11 ?_;clear hK11 K11;refine seqJH (TA 1 (TA 2 (TA 3 (TA 4 (TA 12 (TA 13 (TA 14 KeepsT.nil))))))) (fun(z:(List Bs))=>[]) (fun z=>(H.set c3 (some (.map (seenM z))))) (fun z=>Z89_j13 s14_8 ((Z89_l7 a0 a1 a2 (Z89_n n) n7)) z=some r) ?_ ?_
     ·intro K13 hK13;refine block ?_;refine seqR ?_;obtain⟨x16,gx16,hE⟩:=bO hE;refine S (ix Z6.c s14_8 gx16) (S Ld ?_);refine Sl ?_;refine Sf ?_;refine nil ?_;refine freezeA 8 _ rfl (KA 1 (KA 2 (KA 3 (KA 4 (KA 12 (KA 13 (KA 14 Keeps.nil))))))) ?_;refine seqK fun K17 hK17=>?_;refine seqR (S Fv (S Fv (S Ld ?_)));refine sLen (f:=(intE .i64)) (s:=x16.FType.FWraps) (TK rfl) rfl rfl rfl rfl fun hL19=>?_
      refine S BI (S Mv (G0 Fv ?_));refine G1 24 rfl Fv ?_;refine G1 25 rfl Ld ?_;obtain⟨x20,gx20,hE⟩:=gO hE;refine gC rfl rfl (fun hC=>ungdA (k:=26) rfl (idxMn (f:=(intE .i64)) (n:=0) (TK rfl) rfl (TK rfl) rfl rfl rfl (gx20 hC))) rfl ?_;refine G1 27 rfl Ld ?_;refine G1 28 rfl BI ?_;refine S PO (nil ?_);refine cE hE (fun hc21 hE=>?_) (fun hc21 hE=>?_)
      ·refine AWp.exit ?_;exact hK13 _ y9_c3 Weak.toA hE
      refine sk hK17 ?_;clear hK17 K17;refine seqK fun K22 hK22=>?_;refine seqR (S Fv (S Fv (S Ld (S Fv (S Ld (S BS (nil ?_)))))));refine cE hE (fun hc24 hE=>?_) (fun hc24 hE=>?_)
      ·refine seqR (S As (nil ?_));exact rt hE
      refine sk hK22 ?_;clear hK22 K22;refine AWp.seqD (Sd Ld (Sd NP ?_));refine DOps.s0 (fieldP (TK rfl) rfl rfl (TK rfl) rfl rfl) rfl ?_;refine DOps.s0 (loadP (TK rfl) rfl rfl hpG rfl) rfl ?_;refine Sd Fv (Sd Fv (Sd Ld ?_));obtain⟨x27,gx27,hE⟩:=bO hE;refine Scd rfl rfl (Z78_walk gx27) ?_;refine Sd Mv (Sd EX (Sd EX ?_));refine DOps.sB (TK rfl) rfl rfl ?_ (by repeat (first|exact Snoc.nil|apply Snoc.cons))
      refine DOps.sLn (storeLFA (TK rfl) rfl rfl rfl rfl rfl) ?_;refine Sd As ?_;refine DOps.nil (by decide +kernel) ?_;refine freezeA 9 _ rfl (KA 1 (KA 2 (KA 3 (KA 4 (KA 10 (KA 12 (KA 13 (KA 14 Keeps.nil)))))))) ?_;refine seqR (S Mv (S Mv (G0 Fv ?_)));refine G1 50 rfl Ld ?_;refine G1 51 rfl BI ?_;refine S PA (S Mv (G0 Ld (G0 Fv ?_)));refine G1 56 rfl Ld ?_;refine gC rfl rfl (fun hC=>ungdA (k:=55) rfl (ungdA (k:=57) rfl (lookupSeen (TK rfl) rfl (TK rfl) (TK rfl) rfl rfl rfl rfl hpG))) rfl ?_
      refine G1 58 rfl NB ?_;refine S PA (nil ?_);refine cE hE (fun hc29 hE=>?_) (fun hc29 hE=>?_)
      ·refine seqR (S Ld (S Fv (S Ld ?_)));refine sHn (mapUpdate (TK rfl) rfl (TK rfl) rfl rfl rfl rfl hpG (seen_upd _ _) rfl) rfl rfl ?_;refine hq (H.set c3 (some (.map (seenM (insS y9_c3 x27.1.FName))))) ?_;refine nil ?_;refine seqR ?_;refine s0 (loadP (TK rfl) rfl rfl hpG rfl) rfl ?_;refine S Ld ?_;obtain⟨x32,gx32,hE⟩:=bO hE;refine sH (callH rfl rfl (ih_82 gx32 _ hpG hpG hpG)) rfl ?_;refine hq (H.set c3 (some (.map (seenM x32.2)))) ?_
       refine nil ?_;refine cE hE (fun hc33 hE=>?_) (fun hc33 hE=>?_)
       ·refine seqR (S As (nil ?_));exact rt hE
       refine AWp.skip ?_;exact hK13 _ x32.2 Weak.toA hE
      refine AWp.skip ?_;exact hK13 _ y9_c3 Weak.toA hE
     rintro y14_c3 hE;try dsimp only at hE
     unfold Z89_j13 at hE;refine region ?_;refine SI ?_;refine S Mv (nil ?_);exact hK7 _ (n7,(s14_8+1),y14_c3) Weak.toA hE (Nat.lt_succ_self _)
    refine AWp.exit ?_;exact hK2 _ y9_c3 Weak.toA hE
 rintro y3_c3 hE;try dsimp only at hE
 unfold Z89_j2 at hE;refine seqR (S As (nil ?_));exact rt hE
theorem Z89_all:∀(n:Nat),(∀{a0 a1:TDef}{a2:Z2}{a3:List Bs}{q2_1:Option Nat}{c2 c3 c4:Nat}{r:(Bool×(List Bs))},Z89_n n a0 a1 a2 a3=some r->∀(H:Heap) (hc2:H c2=some (.cells (Z2.cg q2_1 a2))) (hc3:H c3=some (.map (seenM a3))) (hc4:H c4=some (.cells [.func 82 [.view (TDef.c a1),.view [.ptr c2 0],.view [.map c3],.ptr c4 0]])),ACalls Tryz.prog 82 [.agg (TDef.c a0),.d (.view (TDef.c a1)),.d (.view [.ptr c2 0]),.d (.view [.map c3]),.d (.ptr c4 0)] H fun v h'=>v=.a (.d (.bool r.1))/\h'=(H.set c3 (some (.map (seenM r.2)))))
 | 0=>fun hE=>by first|cases hE|(rw [Z89_n] at hE; cases hE)
 | n+1=>Z89_step n (Z89_all n)
def Z89 (a0:TDef) (a1:TDef) (a2:Z2) (a3:(List Bs)):Option (Bool×(List Bs)):=Z89_n F0 a0 a1 a2 a3
theorem Z89_walk {a0 a1:TDef}{a2:Z2}{a3:List Bs}{q2_1:Option Nat}{c2 c3 c4:Nat}{r:(Bool×(List Bs))}(hE:Z89 a0 a1 a2 a3=some r) (H:Heap) (hc2:H c2=some (.cells (Z2.cg q2_1 a2))) (hc3:H c3=some (.map (seenM a3))) (hc4:H c4=some (.cells [.func 82 [.view (TDef.c a1),.view [.ptr c2 0],.view [.map c3],.ptr c4 0]])):ACalls Tryz.prog 82 [.agg (TDef.c a0),.d (.view (TDef.c a1)),.d (.view [.ptr c2 0]),.d (.view [.map c3]),.d (.ptr c4 0)] H fun v h'=>v=.a (.d (.bool r.1))/\h'=(H.set c3 (some (.map (seenM r.2)))):=(Z89_all F0) hE H hc2 hc3 hc4
def Z88 (a0:Z2) (a1:TDef):Option Bool:=(Z89 a1 a1 a0 ([]:List Bs)).bind fun x8=>some x8.1
theorem Z88_walk {a0:Z2}{a1:TDef}{q0_1:Option Nat}{c0:Nat}{r:Bool}(hE:Z88 a0 a1=some r) (H:Heap) (hc0:H c0=some (.cells (Z2.cg q0_1 a0))):ACalls Tryz.prog 47 [.d (.ptr c0 0),.agg (TDef.c a1)] H fun v h'=>v=.a (.d (.bool r))/\h'=H:=by
 unfold Z88 at hE;refine ACalls.oW 12 [.tmp 4] Tryz.call47 Tryz.func47 ?_;refine seqR (S BX (S BX (S As (nil ?_))));refine seqR ?_;refine sE StepE.makeMap rfl (fun _ _ _ ⟨id7_3,hid7_3,e1,e2,e3⟩=>?_); subst e1 e2 e3;have ne_id7_3_c0:id7_3≠c0:=fun e_=>by subst e_; simp_all
 refine hq (H.set id7_3 (some (.map (seenM ([]:List Bs))))) ?_;refine Sl ?_;refine Sf ?_;refine nil ?_;refine freezeA 5 _ rfl (KA 2 (KA 3 Keeps.nil)) ?_;refine seqR ?_;refine sE (StepE.allocO (TK rfl) rfl) rfl (fun _ _ _ ⟨id6_5,hid6_5,e1,e2,e3⟩=>?_); subst e1 e2 e3;obtain⟨ne_id6_5_id7_3,hid6_5⟩:=Heap.set_fresh hid6_5;have ne_id6_5_c0:id6_5≠c0:=fun e_=>by subst e_; simp_all
 refine hq ((H.set id7_3 (some (.map (seenM ([]:List Bs))))).set id6_5 (some (.cells [.nilFunc]))) ?_;refine nil ?_;refine seqR ?_;refine s0 (makeFunc rfl) rfl ?_;refine sHn (storeP1 (TK rfl) rfl rfl hpG rfl (by repeat (first|exact SetAt.zero|apply SetAt.succ))) rfl rfl ?_;refine hq ((H.set id7_3 (some (.map (seenM ([]:List Bs))))).set id6_5 (some (.cells [.func 82 [.view (TDef.c a1),.view [.ptr c0 0],.view [.map id7_3],.ptr id6_5 0]]))) ?_
 refine nil ?_;refine seqR ?_;refine s0 (loadP (TK rfl) rfl rfl hpG rfl) rfl ?_;refine S Ld ?_;obtain⟨x8,gx8,hE⟩:=bO hE;refine sH (callH rfl rfl (Z89_walk gx8 _ hpG hpG hpG)) rfl ?_;refine hq ((H.set id7_3 (some (.map (seenM x8.2)))).set id6_5 (some (.cells [.func 82 [.view (TDef.c a1),.view [.ptr c0 0],.view [.map id7_3],.ptr id6_5 0]]))) ?_;refine S As (nil ?_);refine AWp.ret ?_;repeat (first|refine xBlock_ret ?_|refine xThen_ret ?_)
 obtain rfl:=Option.some.inj hE;refine retQ.retF H rfl ⟨rfl,rfl⟩ ?_;intro id_ o_ he_;have e_id7_3:id_≠id7_3:=fun e_=>by subst e_; simp_all [Heap.set]
 have e_id6_5:id_≠id6_5:=fun e_=>by subst e_; simp_all [Heap.set]
 rw [<- he_];simp only [Heap.set] at he_ ⊢
 (repeat' split)<;>simp_all
def Z91 (a0:Z2) (a1:Bs) (a2:Bs) (a3:(List Bs)):Option (Z2×(List Bs)):=(Z112 a1).bind fun x2=>guardO (!(!x2)) (Z113 a1) false fun x3=>(Z84 a0 ((!x2)||x3) (6:Int) a2).bind fun x4=>(Z84 x4 (a3.contains a1) (7:Int) a2).bind fun x6=>some (x6,(insS a3 a1))
theorem Z91_walk {a0:Z2}{a1 a2:Bs}{a3:List Bs}{c0 c0_1 c3:Nat}{r:(Z2×(List Bs))}(hE:Z91 a0 a1 a2 a3=some r) (H:Heap) (hc0:H c0=some (.cells (Z2.cg (some c0_1) a0))) (ht0_1:H c0_1=some (.tok 2 a0.Ffaults.l.length)) (hc3:H c3=some (.map (seenM a3))):ACalls Tryz.prog 83 [.d (.ptr c0 0),.d (.str a1),.d (.str a2),.d (.map c3)] H fun v h'=>v=.tup []/\h'=(((H.set c0_1 (some (.tok 2 r.1.Ffaults.l.length))).set c0 (some (.cells (Z2.cg (some c0_1) r.1)))).set c3 (some (.map (seenM r.2)))):=by
 unfold Z91 at hE;refine ACalls.oW 26 [] Tryz.call83 Tryz.func83 ?_;have ne_c0_c0_1:c0≠c0_1:=fun e_=>by subst e_; simp_all
 have ne_c3_c0_1:c3≠c0_1:=fun e_=>by subst e_; simp_all
 have ne_c3_c0:c3≠c0:=fun e_=>by subst e_; simp_all
 refine AWp.heqA (h':=(((H.set c0_1 (some (.tok 2 a0.Ffaults.l.length))).set c0 (some (.cells (Z2.cg (some c0_1) a0)))).set c3 (some (.map (seenM a3))))) (by funext n_; simp only [Heap.set]; (repeat' split)<;>simp_all) ?_;refine seqR (S Mv (S Mv ?_));obtain⟨x2,gx2,hE⟩:=bO hE;refine Sc rfl rfl (Z112_walk gx2) ?_;refine S NB (S Mv (G0 Mv ?_));obtain⟨x3,gx3,hE⟩:=gO hE;refine Gc1 13 rfl rfl rfl rfl rfl (fun hC=>Z113_walk (gx3 hC)) ?_
 refine S PO (S Mv ?_);obtain⟨x4,gx4,hE⟩:=bO hE;refine sH (callH rfl rfl (Z84_walk gx4 _ hpG hpG)) rfl ?_;refine hq (((H.set c0_1 (some (.tok 2 x4.Ffaults.l.length))).set c0 (some (.cells (Z2.cg (some c0_1) x4)))).set c3 (some (.map (seenM a3)))) ?_;refine nil ?_;refine seqR (S Mv (S Mv (S Mv ?_)));refine s0 (lookupSeen (TK rfl) rfl (TK rfl) (TK rfl) rfl rfl rfl rfl hpG) rfl ?_;refine S Mv ?_;obtain⟨x6,gx6,hE⟩:=bO hE
 refine sH (callH rfl rfl (Z84_walk gx6 _ hpG hpG)) rfl ?_;refine hq (((H.set c0_1 (some (.tok 2 x6.Ffaults.l.length))).set c0 (some (.cells (Z2.cg (some c0_1) x6)))).set c3 (some (.map (seenM a3)))) ?_;refine nil ?_;refine region ?_;refine S Mv (S Mv ?_);refine sHn (mapUpdate (TK rfl) rfl (TK rfl) rfl rfl rfl rfl hpG (seen_upd _ _) rfl) rfl rfl ?_;refine hq (((H.set c0_1 (some (.tok 2 x6.Ffaults.l.length))).set c0 (some (.cells (Z2.cg (some c0_1) x6)))).set c3 (some (.map (seenM (insS a3 a1))))) ?_
 refine nil ?_;repeat (first|refine xBlock_normal ?_|refine xThen_exit ?_|refine xBlock_exit ?_)
 obtain rfl:=Option.some.inj hE;refine retQ.normalF (((H.set c0_1 (some (.tok 2 x6.Ffaults.l.length))).set c0 (some (.cells (Z2.cg (some c0_1) x6)))).set c3 (some (.map (seenM (insS a3 a1))))) (xs:=[]) rfl ⟨rfl,rfl⟩ ?_;exact(fun _ _ h=>h)
def Z93 (a0:TDoc) (a1:Bs):Option Int:=(Z78 a0 a1).bind fun x3=>some x3.1.FKind
theorem Z93_walk {a0:TDoc}{a1:Bs}{r:Int}(hE:Z93 a0 a1=some r) (H:Heap) :ACalls Tryz.prog 54 [.agg (TDoc.c a0),.d (.str a1)] H fun v h'=>v=.a (.d (.int .i64 r))/\h'=H:=by
 unfold Z93 at hE;refine ACalls.oW 15 [.tmp 4] Tryz.call54 Tryz.func54 ?_;refine seqR (S BX (S As (nil ?_)));refine seqR (S Ld (S Mv ?_));obtain⟨x3,gx3,hE⟩:=bO hE;refine Sc rfl rfl (Z78_walk gx3) ?_;refine S Mv (S EX (S EX ?_));refine Sl ?_;refine Sf ?_;refine S As (nil ?_);refine freezeA 5 _ rfl Keeps.nil ?_;refine seqR (S Fv (S Ld (S As (nil ?_))));exact rt hE
def Z81 (a0:TDoc) (a1:Bs):Option Bool:=(Z83 a1).bind fun x3=>guardO (!x3) (Z93 a0 a1) (0:Int) fun x4=>some (x3||(decide (x4=(4:Int))))
theorem Z81_walk {a0:TDoc}{a1:Bs}{r:Bool}(hE:Z81 a0 a1=some r) (H:Heap) :ACalls Tryz.prog 93 [.agg (TDoc.c a0),.d (.str a1)] H fun v h'=>v=.a (.d (.bool r))/\h'=H:=by
 unfold Z81 at hE;refine ACalls.oW 13 [.tmp 4] Tryz.call93 Tryz.func93 ?_;refine seqR (S BX (S As (nil ?_)));refine seqR (S Mv ?_);obtain⟨x3,gx3,hE⟩:=bO hE;refine Sc rfl rfl (Z83_walk gx3) ?_;refine S Mv (G0 Ld (G0 Mv ?_));obtain⟨x4,gx4,hE⟩:=gO hE;refine Gc2 8 9 rfl rfl rfl rfl rfl rfl (fun hC=>Z93_walk (gx4 hC)) ?_;refine G1 10 rfl BI ?_;refine S PO (S As (nil ?_));exact rt hE
def Z80 (a0:TDoc) (a1:Bs):Option Bool:=(Z81 a0 a1).bind fun x3=>guardO (!x3) (Z93 a0 a1) (0:Int) fun x4=>some (x3||(decide (x4=(5:Int))))
theorem Z80_walk {a0:TDoc}{a1:Bs}{r:Bool}(hE:Z80 a0 a1=some r) (H:Heap) :ACalls Tryz.prog 107 [.agg (TDoc.c a0),.d (.str a1)] H fun v h'=>v=.a (.d (.bool r))/\h'=H:=by
 unfold Z80 at hE;refine ACalls.oW 14 [.tmp 4] Tryz.call107 Tryz.func107 ?_;refine seqR (S BX (S As (nil ?_)));refine seqR (S Ld (S Mv ?_));obtain⟨x3,gx3,hE⟩:=bO hE;refine Sc rfl rfl (Z81_walk gx3) ?_;refine S Mv (G0 Ld (G0 Mv ?_));obtain⟨x4,gx4,hE⟩:=gO hE;refine Gc2 9 10 rfl rfl rfl rfl rfl rfl (fun hC=>Z93_walk (gx4 hC)) ?_;refine G1 11 rfl BI ?_;refine S PO (S As (nil ?_));exact rt hE
def Z92 (a0:Z2) (a1:Bs) (a2:Bs) (a3:Int):Option Z2:=(Z78 a0.Fd a1).bind fun x2=>guardO ((!x2.2)) (Z83 a1) false fun x4=>bif ((!x2.2)&&(!x4)) then((Z84 a0 true (8:Int) a2).bind fun x6=>some x6) else(bif (decide (a3=(0:Int))) then((Z83 a1).bind fun x9=>guardO ((!x9)) (Z93 a0.Fd a1) (0:Int) fun x10=>(Z84 a0 ((!x9)&&(decide (x10=(5:Int)))) (10:Int) a2).bind fun x11=>some x11) else((Z80 a0.Fd a1).bind fun x12=>(Z84 a0 (!x12) (10:Int) a2).bind fun x13=>some x13))
theorem Z92_walk {a0:Z2}{a1 a2:Bs}{a3:Int}{c0 c0_1:Nat}{r:Z2}(hE:Z92 a0 a1 a2 a3=some r) (H:Heap) (hc0:H c0=some (.cells (Z2.cg (some c0_1) a0))) (ht0_1:H c0_1=some (.tok 2 a0.Ffaults.l.length)):ACalls Tryz.prog 84 [.d (.ptr c0 0),.d (.str a1),.d (.str a2),.d (.int .i64 a3)] H fun v h'=>v=.tup []/\h'=((H.set c0_1 (some (.tok 2 r.Ffaults.l.length))).set c0 (some (.cells (Z2.cg (some c0_1) r)))):=by
 unfold Z92 at hE;refine ACalls.oW 58 [] Tryz.call84 Tryz.func84 ?_;have ne_c0_c0_1:c0≠c0_1:=fun e_=>by subst e_; simp_all
 refine AWp.heqA (h':=((H.set c0_1 (some (.tok 2 a0.Ffaults.l.length))).set c0 (some (.cells (Z2.cg (some c0_1) a0))))) (by funext n_; simp only [Heap.set]; (repeat' split)<;>simp_all) ?_;refine seqR (S Mv (S NP ?_));refine s0 (fieldP (TK rfl) rfl rfl (TK rfl) rfl rfl) rfl ?_;refine s0 (loadP (TK rfl) rfl rfl hpG rfl) rfl ?_;refine S Mv ?_;obtain⟨x2,gx2,hE⟩:=bO hE;refine Sc rfl rfl (Z78_walk gx2) ?_
 refine S Mv (S EX (S EX ?_));refine Sl ?_;refine Sf ?_;refine S As (nil ?_);refine freezeA 8 _ rfl (KA 0 (KA 1 (KA 2 (KA 3 (KA 9 Keeps.nil))))) ?_;refine block ?_;refine seqR (S Mv (S NB (S Mv (G0 Mv ?_))));obtain⟨x4,gx4,hE⟩:=gO hE;refine Gc1 33 rfl rfl rfl rfl rfl (fun hC=>Z83_walk (gx4 hC)) ?_;refine G1 34 rfl NB ?_;refine S PA (S As (nil ?_));refine cE hE (fun hc5 hE=>?_) (fun hc5 hE=>?_)
 ·refine region ?_;refine S Mv (S Mv ?_);obtain⟨x6,gx6,hE⟩:=bO hE;refine sH (callH rfl rfl (Z84_walk gx6 _ hpG hpG)) rfl ?_;refine hq ((H.set c0_1 (some (.tok 2 x6.Ffaults.l.length))).set c0 (some (.cells (Z2.cg (some c0_1) x6)))) ?_;refine nil ?_;repeat (first|refine xBlock_normal ?_|refine xThen_exit ?_|refine xBlock_exit ?_)
  obtain rfl:=Option.some.inj hE;refine retQ.normalF ((H.set c0_1 (some (.tok 2 x6.Ffaults.l.length))).set c0 (some (.cells (Z2.cg (some c0_1) x6)))) (xs:=[]) rfl ⟨rfl,rfl⟩ ?_;exact(fun _ _ h=>h)
 refine seqR (S Mv (S BI (S As (nil ?_))));refine cE hE (fun hc8 hE=>?_) (fun hc8 hE=>?_)
 ·refine region ?_;refine S Mv (S Mv ?_);obtain⟨x9,gx9,hE⟩:=bO hE;refine Sc rfl rfl (Z83_walk gx9) ?_;refine S NB (S Mv (G0 Mv ?_));refine G1 48 rfl NP ?_;refine gC rfl rfl (fun hC=>ungdA (k:=49) rfl (fieldP (TK rfl) rfl rfl (TK rfl) rfl rfl)) rfl ?_;refine gC rfl rfl (fun hC=>ungdA (k:=50) rfl (loadP (TK rfl) rfl rfl hpG rfl)) rfl ?_;refine G0 Mv ?_;obtain⟨x10,gx10,hE⟩:=gO hE;refine Gc2 51 52 rfl rfl rfl rfl rfl rfl (fun hC=>Z93_walk (gx10 hC)) ?_
  refine G1 53 rfl BI ?_;refine S PA (S Mv ?_);obtain⟨x11,gx11,hE⟩:=bO hE;refine sH (callH rfl rfl (Z84_walk gx11 _ hpG hpG)) rfl ?_;refine hq ((H.set c0_1 (some (.tok 2 x11.Ffaults.l.length))).set c0 (some (.cells (Z2.cg (some c0_1) x11)))) ?_;refine nil ?_;repeat (first|refine xBlock_normal ?_|refine xThen_exit ?_|refine xBlock_exit ?_)
  obtain rfl:=Option.some.inj hE;refine retQ.normalF ((H.set c0_1 (some (.tok 2 x11.Ffaults.l.length))).set c0 (some (.cells (Z2.cg (some c0_1) x11)))) (xs:=[]) rfl ⟨rfl,rfl⟩ ?_;exact(fun _ _ h=>h)
 refine region ?_;refine S Mv (S Mv (S NP ?_));refine s0 (fieldP (TK rfl) rfl rfl (TK rfl) rfl rfl) rfl ?_;refine s0 (loadP (TK rfl) rfl rfl hpG rfl) rfl ?_;refine S Mv ?_;obtain⟨x12,gx12,hE⟩:=bO hE;refine Sc rfl rfl (Z80_walk gx12) ?_;refine S NB (S Mv ?_);obtain⟨x13,gx13,hE⟩:=bO hE;refine sH (callH rfl rfl (Z84_walk gx13 _ hpG hpG)) rfl ?_;refine hq ((H.set c0_1 (some (.tok 2 x13.Ffaults.l.length))).set c0 (some (.cells (Z2.cg (some c0_1) x13)))) ?_
 refine nil ?_;repeat (first|refine xBlock_normal ?_|refine xThen_exit ?_|refine xBlock_exit ?_)
 obtain rfl:=Option.some.inj hE;refine retQ.normalF ((H.set c0_1 (some (.tok 2 x13.Ffaults.l.length))).set c0 (some (.cells (Z2.cg (some c0_1) x13)))) (xs:=[]) rfl ⟨rfl,rfl⟩ ?_;exact(fun _ _ h=>h)
def Z87_l5 (a1:(Sl Z6)) (a2:Bs) (a3:Bs) :Nat->Nat->Z2->(List Bs)->Option Z2
 | 0,_,_,_=>none
 | n5+1,s15_6,y7_c0,y8_id12_2=>bif (decide (((s15_6:Nat):Int)<((a1.l.length:Nat):Int))) then((a1.l[s15_6]?).bind fun x14=>(catC a2 x14.FName).bind fun x16=>(catC x16 a3).bind fun x17=>(Z91 y7_c0 x14.FName x17 y8_id12_2).bind fun x19=>(Z92 x19.1 x14.FType.FName x17 (1:Int)).bind fun x20=>(Z87_l5 a1 a2 a3 n5) (s15_6+1) x20 x19.2) else(some y7_c0)
def Z87 (a0:Z2) (a1:(Sl Z6)) (a2:Bs) (a3:Bs):Option Z2:=Z87_l5 a1 a2 a3 (a1.l.length+1) 0 a0 ([]:List Bs)
theorem Z87_walk {a0:Z2}{a1:Sl Z6}{a2 a3:Bs}{w1:Option Nat}{c0 c0_1:Nat}{r:Z2}(hE:Z87 a0 a1 a2 a3=some r) (H:Heap) (hc0:H c0=some (.cells (Z2.cg (some c0_1) a0))) (ht0_1:H c0_1=some (.tok 2 a0.Ffaults.l.length)):ACalls Tryz.prog 50 [.d (.ptr c0 0),.d (Sl.d 10 Z6.c w1 a1),.d (.str a2),.d (.str a3)] H fun v h'=>v=.tup []/\h'=((H.set c0_1 (some (.tok 2 r.Ffaults.l.length))).set c0 (some (.cells (Z2.cg (some c0_1) r)))):=by
 unfold Z87 at hE;refine ACalls.oW 38 [] Tryz.call50 Tryz.func50 ?_;have ne_c0_c0_1:c0≠c0_1:=fun e_=>by subst e_; simp_all
 refine AWp.heqA (h':=((H.set c0_1 (some (.tok 2 a0.Ffaults.l.length))).set c0 (some (.cells (Z2.cg (some c0_1) a0))))) (by funext n_; simp only [Heap.set]; (repeat' split)<;>simp_all) ?_;refine seqR ?_;refine sE StepE.makeMap rfl (fun _ _ _ ⟨id12_2,hid12_2,e1,e2,e3⟩=>?_); subst e1 e2 e3;obtain⟨ne_id12_2_c0,hid12_2⟩:=Heap.set_fresh hid12_2;obtain⟨ne_id12_2_c0_1,hid12_2⟩:=Heap.set_fresh hid12_2;refine hq (((H.set c0_1 (some (.tok 2 a0.Ffaults.l.length))).set c0 (some (.cells (Z2.cg (some c0_1) a0)))).set id12_2 (some (.map (seenM ([]:List Bs))))) ?_
 refine S As (nil ?_);refine seqR (S Mv ?_);refine sLen (f:=Z6.c) (s:=a1) (TK rfl) rfl rfl rfl rfl fun hL4=>?_;refine S Mv (nil ?_);refine block ?_;refine loopH (TA 0 (TA 2 (TA 3 (TA 8 (TA 13 (TA 14 KeepsT.nil)))))) (fun(z:Nat×Nat×Z2×(List Bs))=>[(15,.a (.d (.int .i64 ((z.2.1:Nat):Int))))]) (fun z=>(((H.set c0_1 (some (.tok 2 z.2.2.1.Ffaults.l.length))).set c0 (some (.cells (Z2.cg (some c0_1) z.2.2.1)))).set id12_2 (some (.map (seenM z.2.2.2))))) (fun z=>z.1) (fun z=>Z87_l5 a1 a2 a3 z.1 z.2.1 z.2.2.1 z.2.2.2=some r) ((a1.l.length+1),0,a0,([]:List Bs)) hE Weak.toA ?_
 rintro ⟨n5,s15_6,y7_c0,y8_id12_2⟩ hE K5 hK5;try dsimp only at hE
 cases n5 with
 | zero=>cases hE
 | succ n5 =>
   rw [Z87_l5] at hE;refine seqR (S BI (nil ?_));refine seqK fun K10 hK10=>?_;refine cE hE (fun hc11 hE=>?_) (fun hc11 hE=>?_)
   ·try dsimp only at hc11
    have hf11:=of_decide_eq_true hc11;refine sk hK10 ?_;clear hK10 K10;refine seqK fun K12 hK12=>?_;refine block ?_;refine seqR ?_;obtain⟨x14,gx14,hE⟩:=bO hE;refine S (ix Z6.c s15_6 gx14) (S Ld ?_);refine Sl ?_;refine Sf ?_;refine nil ?_;refine freezeA 10 _ rfl (KA 0 (KA 2 (KA 3 (KA 8 (KA 13 (KA 14 (KA 15 Keeps.nil))))))) ?_;refine seqR (S Mv (S Fv (S Ld ?_)));obtain⟨x16,gx16,hE⟩:=bO hE;refine s0 (catM rfl rfl gx16) rfl ?_
    refine S Mv ?_;obtain⟨x17,gx17,hE⟩:=bO hE;refine s0 (catM rfl rfl gx17) rfl ?_;refine S As (nil ?_);refine seqR (S Mv (S Fv (S Ld (S Mv (S Mv ?_)))));obtain⟨x19,gx19,hE⟩:=bO hE;refine sH (callH rfl rfl (Z91_walk gx19 _ hpG hpG hpG)) rfl ?_;refine hq (((H.set c0_1 (some (.tok 2 x19.1.Ffaults.l.length))).set c0 (some (.cells (Z2.cg (some c0_1) x19.1)))).set id12_2 (some (.map (seenM x19.2)))) ?_
    refine nil ?_;refine region ?_;refine S Mv (S Fv (S Fv (S Ld (S Mv ?_))));obtain⟨x20,gx20,hE⟩:=bO hE;refine sH (callH rfl rfl (Z92_walk gx20 _ hpG hpG)) rfl ?_;refine hq (((H.set c0_1 (some (.tok 2 x20.Ffaults.l.length))).set c0 (some (.cells (Z2.cg (some c0_1) x20)))).set id12_2 (some (.map (seenM x19.2)))) ?_;refine nil ?_;refine hK12 _ ?_;clear hK12 K12;refine region ?_;refine SI ?_;refine S Mv (nil ?_)
    exact hK5 _ (n5,(s15_6+1),x20,x19.2) Weak.toA hE (Nat.lt_succ_self _)
   refine AWp.exit ?_;repeat (first|refine xBlock_normal ?_|refine xThen_exit ?_|refine xBlock_exit ?_)
   obtain rfl:=Option.some.inj hE;refine retQ.normalF ((H.set c0_1 (some (.tok 2 y7_c0.Ffaults.l.length))).set c0 (some (.cells (Z2.cg (some c0_1) y7_c0)))) (xs:=[]) rfl ⟨rfl,rfl⟩ ?_;intro id_ o_ he_;have e_id12_2:id_≠id12_2:=fun e_=>by subst e_; simp_all [Heap.set]
   rw [<- he_];simp only [Heap.set] at he_ ⊢
   (repeat' split)<;>simp_all
end Go.Proofs
