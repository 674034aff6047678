import Derived.Test.YtmmmdpmnafkblaaGreatDoorV1
set_option maxRecDepth 100000
set_option maxHeartbeats 2000000
set_option linter.unusedVariables false
set_option linter.unusedSimpArgs false
namespace Go.Proofs
open Go Go.Ab
open AOps Cert AWp Keeps KeepsT
variable {lou:Lou}
def Z65_j7  :Option Bool:=some true
def Z65_l10 (a0:(Sl Z5)) :Nat->Nat->Option Bool
 | 0,_=>none
 | n10+1,s3_11=>bif (decide (((s3_11:Nat):Int)<((a0.l.length:Nat):Int))) then((a0.l[s3_11]?).bind fun x18=>(Z34 x18.FName).bind fun x21=>guardO (!(!x21)) (Z55 x18.FType) false fun x22=>guardO (!((!x21)||(!x22))) (Z63 x18.FDirs) false fun x23=>bif (((!x21)||(!x22))||(!x23)) then(some false) else(guardO (x18.FHas) (Z40 x18.FDefault) false fun x27=>guardO ((x18.FHas&&!(!x27))) (Z61 x18.FDefault) false fun x28=>guardO ((!(x18.FHas&&((!x27)||(!x28)))&&(!x18.FHas))) (Z67 x18.FDefault) false fun x29=>bif ((x18.FHas&&((!x27)||(!x28)))||((!x18.FHas)&&(!x29))) then(some false) else((Z65_l10 a0 n10) (s3_11+1)))) else(Z65_j7   )
def Z65 (a0:(Sl Z5)):Option Bool:=bif (decide ((16:Int)<((a0.l.length:Nat):Int))) then(some false) else(Z65_l10 a0 (a0.l.length+1) 0)
theorem Z65_walk {a0:Sl Z5}{w0:Option Nat}{r:Bool}(hE:Z65 a0=some r) (H:Heap) :AC Tryz.prog 60 [.d (Sl.d 10 Z5.c w0 a0)] H fun v h'=>v=.a (.d (.bool r))/\h'=H:=by
 unfold Z65 at hE;refine AC.oW 59 [.tmp 2] Tryz.call60 Tryz.func60 ?_;refine seqR (S As (nil ?_));refine seqK fun K2 hK2=>?_;refine seqR (S Mv ?_);refine sLen (f:=Z5.c) (s:=a0) (TK rfl) rfl rfl rfl rfl fun hL4=>?_;refine S BI (nil ?_);refine cE hE (fun hc5 hE=>?_) (fun hc5 hE=>?_)
 ·refine seqR (S As (nil ?_));exact rt hE
 refine sk hK2 ?_;clear hK2 K2;refine seqJH kN (fun(z:Unit)=>[]) (fun z=>H) (fun z=>Z65_j7 =some r) ?_ ?_
 ·intro K7 hK7;refine seqR (S As (nil ?_));refine block ?_;refine loopH (TA 0 kN) (fun(z:Nat×Nat)=>[(3,.a (.d (.int .i64 ((z.2:Nat):Int))))]) (fun z=>H) (fun z=>z.1) (fun z=>Z65_l10 a0 z.1 z.2=some r) ((a0.l.length+1),0) hE wA ?_;rintro ⟨n10,s3_11⟩ hE K10 hK10;try dsimp only at hE
  cases n10 with
  | zero=>cases hE
  | succ n10 =>
    rw [Z65_l10] at hE;refine seqK fun K12 hK12=>?_;refine seqR (S Mv (S Mv ?_));refine sLen (f:=Z5.c) (s:=a0) (TK rfl) rfl rfl rfl rfl fun hL14=>?_;refine S BI (nil ?_);refine cE hE (fun hc15 hE=>?_) (fun hc15 hE=>?_)
    ·try dsimp only at hc15
     have hf15:=oD hc15;refine sk hK12 ?_;clear hK12 K12;refine seqK fun K16 hK16=>?_;refine block ?_;refine seqR (S Mv (S Mv ?_));obtain⟨x18,gx18,hE⟩:=bO hE;refine S (ix Z5.c s3_11 gx18) (S Ld ?_);refine Sl ?_;refine Sf ?_;refine nil ?_;refine freezeA 4 _ rfl (KA 0 (KA 3 Keeps.nil)) ?_;refine seqK fun K19 hK19=>?_;refine seqR (S Fv (S Ld ?_));obtain⟨x21,gx21,hE⟩:=bO hE;refine Sc rfl rfl (Z34_walk gx21) ?_
     refine S NB (S Mv (G0 Fv ?_));refine G1 23 rfl Ld ?_;obtain⟨x22,gx22,hE⟩:=gO hE;refine Gc1 24 rfl rfl rfl rfl rfl (fun hC=>Z55_walk (gx22 hC)) ?_;refine G1 25 rfl NB ?_;refine S PO (S Mv (G0 Fv ?_));refine G1 29 rfl Ld ?_;obtain⟨x23,gx23,hE⟩:=gO hE;refine Gc1 30 rfl rfl rfl rfl rfl (fun hC=>Z63_walk (gx23 hC)) ?_;refine G1 31 rfl NB ?_;refine S PO (nil ?_);refine cE hE (fun hc24 hE=>?_) (fun hc24 hE=>?_)
     ·refine seqR (S As (nil ?_));exact rt hE
     refine sk hK19 ?_;clear hK19 K19;refine seqR (S Fv (S Ld (S Mv (G0 Fv ?_))));refine G1 37 rfl Ld ?_;obtain⟨x27,gx27,hE⟩:=gO hE;refine Gc1 38 rfl rfl rfl rfl rfl (fun hC=>Z40_walk (gx27 hC)) ?_;refine G1 39 rfl NB ?_;refine G1 40 rfl Mv ?_;refine G0 Fv ?_;refine G1 42 rfl Ld ?_;obtain⟨x28,gx28,hE⟩:=gO hE;refine Gc1 43 rfl rfl rfl rfl rfl (fun hC=>Z61_walk (gx28 hC)) ?_;refine G1 44 rfl NB ?_;refine gC rfl rfl (fun hC=>ungdA (k:=41) rfl (pickOrA rfl rfl rfl)) rfl ?_
     refine S PA (S Mv (G0 Fv ?_));refine G1 49 rfl Ld ?_;refine G1 50 rfl NB ?_;refine G1 51 rfl Mv ?_;refine G0 Fv ?_;refine G1 53 rfl Ld ?_;obtain⟨x29,gx29,hE⟩:=gO hE;refine Gc1 54 rfl rfl rfl rfl rfl (fun hC=>Z67_walk (gx29 hC)) ?_;refine G1 55 rfl NB ?_;refine gC rfl rfl (fun hC=>ungdA (k:=52) rfl (pickAndA rfl rfl rfl)) rfl ?_;refine S PO (nil ?_);refine cE hE (fun hc30 hE=>?_) (fun hc30 hE=>?_)
     ·refine seqR (S As (nil ?_));exact rt hE
     refine sk hK16 ?_;clear hK16 K16;refine region ?_;refine S Mv ?_;refine SI ?_;refine S As (nil ?_);exact hK10 _ (n10,(s3_11+1)) wA hE (nS _)
    refine AWp.exit ?_;exact hK7 _ () wA hE
 rintro _ hE;try dsimp only at hE
 unfold Z65_j7 at hE;refine seqR (S As (nil ?_));exact rt hE
def Z64_j7  :Option Bool:=some true
def Z64_l10 (a0:(Sl Z4)) :Nat->Nat->Option Bool
 | 0,_=>none
 | n10+1,s3_11=>bif (decide (((s3_11:Nat):Int)<((a0.l.length:Nat):Int))) then((a0.l[s3_11]?).bind fun x18=>(Z34 x18.FName).bind fun x19=>guardO (!(!x19)) (a0.l[s3_11]?) Z4.zero fun x20=>guardO (!(!x19)) (Z65 x20.FArgs) false fun x21=>guardO (!((!x19)||(!x21))) (a0.l[s3_11]?) Z4.zero fun x22=>guardO (!((!x19)||(!x21))) (Z55 x22.FType) false fun x23=>guardO (!(((!x19)||(!x21))||(!x23))) (a0.l[s3_11]?) Z4.zero fun x24=>guardO (!(((!x19)||(!x21))||(!x23))) (Z63 x24.FDirs) false fun x25=>bif ((((!x19)||(!x21))||(!x23))||(!x25)) then(some false) else((Z64_l10 a0 n10) (s3_11+1))) else(Z64_j7   )
def Z64 (a0:(Sl Z4)):Option Bool:=bif ((decide (((a0.l.length:Nat):Int)<(1:Int)))||(decide ((64:Int)<((a0.l.length:Nat):Int)))) then(some false) else(Z64_l10 a0 (a0.l.length+1) 0)
theorem Z64_walk {a0:Sl Z4}{w0:Option Nat}{r:Bool}(hE:Z64 a0=some r) (H:Heap) :AC Tryz.prog 58 [.d (Sl.d 5 Z4.c w0 a0)] H fun v h'=>v=.a (.d (.bool r))/\h'=H:=by
 unfold Z64 at hE;refine AC.oW 52 [.tmp 2] Tryz.call58 Tryz.func58 ?_;refine seqR (S As (nil ?_));refine seqK fun K2 hK2=>?_;refine seqR (S Mv ?_);refine sLen (f:=Z4.c) (s:=a0) (TK rfl) rfl rfl rfl rfl fun hL4=>?_;refine S BI (S Mv (G0 Mv ?_));refine gC rfl rfl (fun hC=>ungdA (k:=8) rfl (lenM' (f:=Z4.c) (s:=a0) (TK rfl) rfl rfl rfl)) rfl ?_;refine G1 9 rfl BI ?_;refine S PO (nil ?_);refine cE hE (fun hc5 hE=>?_) (fun hc5 hE=>?_)
 ·refine seqR (S As (nil ?_));exact rt hE
 refine sk hK2 ?_;clear hK2 K2;refine seqJH kN (fun(z:Unit)=>[]) (fun z=>H) (fun z=>Z64_j7 =some r) ?_ ?_
 ·intro K7 hK7;refine seqR (S As (nil ?_));refine block ?_;refine loopH (TA 0 kN) (fun(z:Nat×Nat)=>[(3,.a (.d (.int .i64 ((z.2:Nat):Int))))]) (fun z=>H) (fun z=>z.1) (fun z=>Z64_l10 a0 z.1 z.2=some r) ((a0.l.length+1),0) hE wA ?_;rintro ⟨n10,s3_11⟩ hE K10 hK10;try dsimp only at hE
  cases n10 with
  | zero=>cases hE
  | succ n10 =>
    rw [Z64_l10] at hE;refine seqK fun K12 hK12=>?_;refine seqR (S Mv (S Mv ?_));refine sLen (f:=Z4.c) (s:=a0) (TK rfl) rfl rfl rfl rfl fun hL14=>?_;refine S BI (nil ?_);refine cE hE (fun hc15 hE=>?_) (fun hc15 hE=>?_)
    ·try dsimp only at hc15
     have hf15:=oD hc15;refine sk hK12 ?_;clear hK12 K12;refine seqK fun K16 hK16=>?_;refine block ?_;refine seqR (S Mv (S Mv ?_));obtain⟨x18,gx18,hE⟩:=bO hE;refine S (ix Z4.c s3_11 gx18) (S Fv (S Ld ?_));obtain⟨x19,gx19,hE⟩:=bO hE;refine Sc rfl rfl (Z34_walk gx19) ?_;refine S NB (S Mv (G0 Mv (G0 Mv ?_)));obtain⟨x20,gx20,hE⟩:=gO hE;refine gC rfl rfl (fun hC=>ungdA (k:=26) rfl (ungdA (k:=27) rfl (idxMn (f:=Z4.c) (n:=s3_11) (TK rfl) rfl (TK rfl) rfl rfl rfl (gx20 hC)))) rfl ?_
     refine G1 28 rfl Fv ?_;refine G1 29 rfl Ld ?_;obtain⟨x21,gx21,hE⟩:=gO hE;refine Gc1 30 rfl rfl rfl rfl rfl (fun hC=>Z65_walk (gx21 hC)) ?_;refine G1 31 rfl NB ?_;refine S PO (S Mv (G0 Mv (G0 Mv ?_)));obtain⟨x22,gx22,hE⟩:=gO hE;refine gC rfl rfl (fun hC=>ungdA (k:=35) rfl (ungdA (k:=36) rfl (idxMn (f:=Z4.c) (n:=s3_11) (TK rfl) rfl (TK rfl) rfl rfl rfl (gx22 hC)))) rfl ?_;refine G1 37 rfl Fv ?_
     refine G1 38 rfl Ld ?_;obtain⟨x23,gx23,hE⟩:=gO hE;refine Gc1 39 rfl rfl rfl rfl rfl (fun hC=>Z55_walk (gx23 hC)) ?_;refine G1 40 rfl NB ?_;refine S PO (S Mv (G0 Mv (G0 Mv ?_)));obtain⟨x24,gx24,hE⟩:=gO hE;refine gC rfl rfl (fun hC=>ungdA (k:=44) rfl (ungdA (k:=45) rfl (idxMn (f:=Z4.c) (n:=s3_11) (TK rfl) rfl (TK rfl) rfl rfl rfl (gx24 hC)))) rfl ?_;refine G1 46 rfl Fv ?_;refine G1 47 rfl Ld ?_
     obtain⟨x25,gx25,hE⟩:=gO hE;refine Gc1 48 rfl rfl rfl rfl rfl (fun hC=>Z63_walk (gx25 hC)) ?_;refine G1 49 rfl NB ?_;refine S PO (nil ?_);refine cE hE (fun hc26 hE=>?_) (fun hc26 hE=>?_)
     ·refine seqR (S As (nil ?_));exact rt hE
     refine sk hK16 ?_;clear hK16 K16;refine region ?_;refine S Mv ?_;refine SI ?_;refine S As (nil ?_);exact hK10 _ (n10,(s3_11+1)) wA hE (nS _)
    refine AWp.exit ?_;exact hK7 _ () wA hE
 rintro _ hE;try dsimp only at hE
 unfold Z64_j7 at hE;refine seqR (S As (nil ?_));exact rt hE
def Z66_j7  :Option Bool:=some true
def Z66_l10 (a0:(Sl Z6)) (a1:Bool) :Nat->Nat->Option Bool
 | 0,_=>none
 | n10+1,s5_11=>bif (decide (((s5_11:Nat):Int)<((a0.l.length:Nat):Int))) then((a0.l[s5_11]?).bind fun x18=>(Z34 x18.FName).bind fun x19=>guardO (!(!x19)) (a0.l[s5_11]?) Z6.zero fun x20=>guardO (!(!x19)) (Z63 x20.FDirs) false fun x21=>guardO ((!((!x19)||(!x21))&&a1)) (a0.l[s5_11]?) Z6.zero fun x22=>bif (((!x19)||(!x21))||(a1&&(decide ((0:Int)<((x22.FDirs.l.length:Nat):Int))))) then(some false) else((Z66_l10 a0 a1 n10) (s5_11+1))) else(Z66_j7   )
def Z66 (a0:(Sl Z6)) (a1:Bool):Option Bool:=bif ((decide (((a0.l.length:Nat):Int)<(1:Int)))||(decide ((64:Int)<((a0.l.length:Nat):Int)))) then(some false) else(Z66_l10 a0 a1 (a0.l.length+1) 0)
theorem Z66_walk {a0:Sl Z6}{a1:Bool}{w0:Option Nat}{r:Bool}(hE:Z66 a0 a1=some r) (H:Heap) :AC Tryz.prog 59 [.d (Sl.d 2 Z6.c w0 a0),.d (.bool a1)] H fun v h'=>v=.a (.d (.bool r))/\h'=H:=by
 unfold Z66 at hE;refine AC.oW 48 [.tmp 4] Tryz.call59 Tryz.func59 ?_;refine seqR (S As (nil ?_));refine seqK fun K2 hK2=>?_;refine seqR (S Mv ?_);refine sLen (f:=Z6.c) (s:=a0) (TK rfl) rfl rfl rfl rfl fun hL4=>?_;refine S BI (S Mv (G0 Mv ?_));refine gC rfl rfl (fun hC=>ungdA (k:=10) rfl (lenM' (f:=Z6.c) (s:=a0) (TK rfl) rfl rfl rfl)) rfl ?_;refine G1 11 rfl BI ?_;refine S PO (nil ?_);refine cE hE (fun hc5 hE=>?_) (fun hc5 hE=>?_)
 ·refine seqR (S As (nil ?_));exact rt hE
 refine sk hK2 ?_;clear hK2 K2;refine seqJH kN (fun(z:Unit)=>[]) (fun z=>H) (fun z=>Z66_j7 =some r) ?_ ?_
 ·intro K7 hK7;refine seqR (S As (nil ?_));refine block ?_;refine loopH (TA 0 (TA 1 kN)) (fun(z:Nat×Nat)=>[(5,.a (.d (.int .i64 ((z.2:Nat):Int))))]) (fun z=>H) (fun z=>z.1) (fun z=>Z66_l10 a0 a1 z.1 z.2=some r) ((a0.l.length+1),0) hE wA ?_;rintro ⟨n10,s5_11⟩ hE K10 hK10;try dsimp only at hE
  cases n10 with
  | zero=>cases hE
  | succ n10 =>
    rw [Z66_l10] at hE;refine seqK fun K12 hK12=>?_;refine seqR (S Mv (S Mv ?_));refine sLen (f:=Z6.c) (s:=a0) (TK rfl) rfl rfl rfl rfl fun hL14=>?_;refine S BI (nil ?_);refine cE hE (fun hc15 hE=>?_) (fun hc15 hE=>?_)
    ·try dsimp only at hc15
     have hf15:=oD hc15;refine sk hK12 ?_;clear hK12 K12;refine seqK fun K16 hK16=>?_;refine block ?_;refine seqR (S Mv (S Mv ?_));obtain⟨x18,gx18,hE⟩:=bO hE;refine S (ix Z6.c s5_11 gx18) (S Fv (S Ld ?_));obtain⟨x19,gx19,hE⟩:=bO hE;refine Sc rfl rfl (Z34_walk gx19) ?_;refine S NB (S Mv (G0 Mv (G0 Mv ?_)));obtain⟨x20,gx20,hE⟩:=gO hE;refine gC rfl rfl (fun hC=>ungdA (k:=28) rfl (ungdA (k:=29) rfl (idxMn (f:=Z6.c) (n:=s5_11) (TK rfl) rfl (TK rfl) rfl rfl rfl (gx20 hC)))) rfl ?_
     refine G1 30 rfl Fv ?_;refine G1 31 rfl Ld ?_;obtain⟨x21,gx21,hE⟩:=gO hE;refine Gc1 32 rfl rfl rfl rfl rfl (fun hC=>Z63_walk (gx21 hC)) ?_;refine G1 33 rfl NB ?_;refine S PO (S Mv (G0 Mv ?_));refine G1 37 rfl Mv ?_;refine G0 Mv (G0 Mv ?_);obtain⟨x22,gx22,hE⟩:=gO hE;refine gC rfl rfl (fun hC=>ungdA (k:=39) rfl (ungdA (k:=40) rfl (idxMn (f:=Z6.c) (n:=s5_11) (TK rfl) rfl (TK rfl) rfl rfl rfl (gx22 hC)))) rfl ?_
     refine G1 41 rfl Fv ?_;refine G1 42 rfl Ld ?_;refine gC rfl rfl (fun hC=>ungdA (k:=43) rfl (lenM' (f:=TDir.c) (s:=x22.FDirs) (TK rfl) rfl rfl rfl)) rfl ?_;refine G1 44 rfl BI ?_;refine gC rfl rfl (fun hC=>ungdA (k:=38) rfl (pickAndA rfl rfl rfl)) rfl ?_;refine S PO (nil ?_);refine cE hE (fun hc23 hE=>?_) (fun hc23 hE=>?_)
     ·refine seqR (S As (nil ?_));exact rt hE
     refine sk hK16 ?_;clear hK16 K16;refine region ?_;refine S Mv ?_;refine SI ?_;refine S As (nil ?_);exact hK10 _ (n10,(s5_11+1)) wA hE (nS _)
    refine AWp.exit ?_;exact hK7 _ () wA hE
 rintro _ hE;try dsimp only at hE
 unfold Z66_j7 at hE;refine seqR (S As (nil ?_));exact rt hE
def Z62_j8 (a0:TDef)  :Option Bool:=bif (decide (a0.FKind=(1:Int))) then((Z64 a0.FFields).bind fun x15=>some ((x15&&(decide (((a0.FMembers.l.length:Nat):Int)=(0:Int))))&&(decide (((a0.FInputs.l.length:Nat):Int)=(0:Int))))) else(bif (decide (a0.FKind=(2:Int))) then(guardO ((decide (((a0.FImplements.l.length:Nat):Int)=(0:Int)))) (Z64 a0.FFields) false fun x19=>some ((((decide (((a0.FImplements.l.length:Nat):Int)=(0:Int)))&&x19)&&(decide (((a0.FMembers.l.length:Nat):Int)=(0:Int))))&&(decide (((a0.FInputs.l.length:Nat):Int)=(0:Int))))) else(bif (decide (a0.FKind=(3:Int))) then(guardO (((decide (((a0.FImplements.l.length:Nat):Int)=(0:Int)))&&(decide (((a0.FFields.l.length:Nat):Int)=(0:Int))))) (Z66 a0.FMembers true) false fun x23=>some ((((decide (((a0.FImplements.l.length:Nat):Int)=(0:Int)))&&(decide (((a0.FFields.l.length:Nat):Int)=(0:Int))))&&x23)&&(decide (((a0.FInputs.l.length:Nat):Int)=(0:Int))))) else(bif (decide (a0.FKind=(4:Int))) then(guardO (((decide (((a0.FImplements.l.length:Nat):Int)=(0:Int)))&&(decide (((a0.FFields.l.length:Nat):Int)=(0:Int))))) (Z66 a0.FMembers false) false fun x27=>some ((((decide (((a0.FImplements.l.length:Nat):Int)=(0:Int)))&&(decide (((a0.FFields.l.length:Nat):Int)=(0:Int))))&&x27)&&(decide (((a0.FInputs.l.length:Nat):Int)=(0:Int))))) else(bif (decide (a0.FKind=(5:Int))) then(guardO (((((decide (((a0.FImplements.l.length:Nat):Int)=(0:Int)))&&(decide (((a0.FFields.l.length:Nat):Int)=(0:Int))))&&(decide (((a0.FMembers.l.length:Nat):Int)=(0:Int))))&&(decide ((0:Int)<((a0.FInputs.l.length:Nat):Int))))) (Z65 a0.FInputs) false fun x31=>some (((((decide (((a0.FImplements.l.length:Nat):Int)=(0:Int)))&&(decide (((a0.FFields.l.length:Nat):Int)=(0:Int))))&&(decide (((a0.FMembers.l.length:Nat):Int)=(0:Int))))&&(decide ((0:Int)<((a0.FInputs.l.length:Nat):Int))))&&x31)) else(some false)))))
def Z62_l34 (a0:TDef) :Nat->Nat->Option Bool
 | 0,_=>none
 | n34+1,s3_35=>bif (decide (((s3_35:Nat):Int)<((a0.FImplements.l.length:Nat):Int))) then((a0.FImplements.l[s3_35]?).bind fun x42=>(Z34 x42).bind fun x43=>bif (!x43) then(some false) else((Z62_l34 a0 n34) (s3_35+1))) else(Z62_j8 a0  )
def Z62 (a0:TDef):Option Bool:=(Z34 a0.FName).bind fun x4=>guardO (!(!x4)) (Z63 a0.FDirs) false fun x5=>bif (((!x4)||(!x5))||(decide ((64:Int)<((a0.FImplements.l.length:Nat):Int)))) then(some false) else(Z62_l34 a0 (a0.FImplements.l.length+1) 0)
theorem Z62_walk {a0:TDef}{r:Bool}(hE:Z62 a0=some r) (H:Heap) :AC Tryz.prog 30 [.agg (TDef.c a0)] H fun v h'=>v=.a (.d (.bool r))/\h'=H:=by
 unfold Z62 at hE;refine AC.oW 129 [.tmp 2] Tryz.call30 Tryz.func30 ?_;refine seqR (S BX (S As (nil ?_)));refine seqK fun K2 hK2=>?_;refine seqR (S Fv (S Ld ?_));obtain⟨x4,gx4,hE⟩:=bO hE;refine Sc rfl rfl (Z34_walk gx4) ?_;refine S NB (S Mv (G0 Fv ?_));refine G1 13 rfl Ld ?_;obtain⟨x5,gx5,hE⟩:=gO hE;refine Gc1 14 rfl rfl rfl rfl rfl (fun hC=>Z63_walk (gx5 hC)) ?_;refine G1 15 rfl NB ?_;refine S PO (S Mv (G0 Fv ?_))
 refine G1 19 rfl Ld ?_;refine gC rfl rfl (fun hC=>ungdA (k:=20) rfl (lenM' (f:=strE) (s:=a0.FImplements) (TK rfl) rfl rfl rfl)) rfl ?_;refine G1 21 rfl BI ?_;refine S PO (nil ?_);refine cE hE (fun hc6 hE=>?_) (fun hc6 hE=>?_)
 ·refine seqR (S As (nil ?_));exact rt hE
 refine sk hK2 ?_;clear hK2 K2;refine seqJH (TA 1 kN) (fun(z:Unit)=>[]) (fun z=>H) (fun z=>Z62_j8 a0 =some r) ?_ ?_
 ·intro K8 hK8;refine seqR (S As (nil ?_));refine block ?_;refine loopH (TA 1 kN) (fun(z:Nat×Nat)=>[(3,.a (.d (.int .i64 ((z.2:Nat):Int))))]) (fun z=>H) (fun z=>z.1) (fun z=>Z62_l34 a0 z.1 z.2=some r) ((a0.FImplements.l.length+1),0) hE wA ?_;rintro ⟨n34,s3_35⟩ hE K34 hK34;try dsimp only at hE
  cases n34 with
  | zero=>cases hE
  | succ n34 =>
    rw [Z62_l34] at hE;refine seqK fun K36 hK36=>?_;refine seqR (S Mv (S Fv (S Ld ?_)));refine sLen (f:=strE) (s:=a0.FImplements) (TK rfl) rfl rfl rfl rfl fun hL38=>?_;refine S BI (nil ?_);refine cE hE (fun hc39 hE=>?_) (fun hc39 hE=>?_)
    ·try dsimp only at hc39
     have hf39:=oD hc39;refine sk hK36 ?_;clear hK36 K36;refine seqK fun K40 hK40=>?_;refine block ?_;refine seqR (S Fv (S Ld (S Mv ?_)));obtain⟨x42,gx42,hE⟩:=bO hE;refine S (ix strE s3_35 gx42) (S Ld ?_);obtain⟨x43,gx43,hE⟩:=bO hE;refine Sc rfl rfl (Z34_walk gx43) ?_;refine S NB (nil ?_);refine cE hE (fun hc44 hE=>?_) (fun hc44 hE=>?_)
     ·refine seqR (S As (nil ?_));exact rt hE
     refine sk hK40 ?_;clear hK40 K40;refine region ?_;refine S Mv ?_;refine SI ?_;refine S As (nil ?_);exact hK34 _ (n34,(s3_35+1)) wA hE (nS _)
    refine AWp.exit ?_;exact hK8 _ () wA hE
 rintro _ hE;try dsimp only at hE
 unfold Z62_j8 at hE;refine AWp.seqD (Sd Fv (Sd Ld ?_));refine DOps.s0 (lenM' (f:=strE) (s:=a0.FImplements) (TK rfl) rfl rfl rfl) rfl ?_;refine Sd BI (Sd Fv (Sd Ld ?_));refine DOps.s0 (lenM' (f:=Z4.c) (s:=a0.FFields) (TK rfl) rfl rfl rfl) rfl ?_;refine Sd BI (Sd Fv (Sd Ld ?_));refine DOps.s0 (lenM' (f:=Z6.c) (s:=a0.FMembers) (TK rfl) rfl rfl rfl) rfl ?_;refine Sd BI (Sd Fv (Sd Ld ?_));refine DOps.s0 (lenM' (f:=Z5.c) (s:=a0.FInputs) (TK rfl) rfl rfl rfl) rfl ?_
 refine Sd BI (Sd As (Sd As (Sd As (Sd As ?_))));refine DOps.nil (by decide +kernel) ?_;refine seqK fun K10 hK10=>?_;refine seqR (S Fv (S Ld (nil ?_)));refine block ?_;refine seqR (S BI (S As (nil ?_)));refine cE hE (fun hc13 hE=>?_) (fun hc13 hE=>?_)
 ·refine seqR (S Fv (S Ld ?_));obtain⟨x15,gx15,hE⟩:=bO hE;refine Sc rfl rfl (Z64_walk gx15) ?_;refine S Mv (G0 Mv (S PA (S Mv (G0 Mv (S PA (S As (nil ?_)))))));exact rt hE
 refine seqR (S BI (S As (nil ?_)));refine cE hE (fun hc17 hE=>?_) (fun hc17 hE=>?_)
 ·refine seqR (S Mv (S Mv (G0 Fv ?_)));refine G1 71 rfl Ld ?_;obtain⟨x19,gx19,hE⟩:=gO hE;refine Gc1 72 rfl rfl rfl rfl rfl (fun hC=>Z64_walk (gx19 hC)) ?_;refine S PA (S Mv (G0 Mv (S PA (S Mv (G0 Mv (S PA (S As (nil ?_))))))));exact rt hE
 refine seqR (S BI (S As (nil ?_)));refine cE hE (fun hc21 hE=>?_) (fun hc21 hE=>?_)
 ·refine seqR (S Mv (S Mv (G0 Mv (S PA (S Mv (G0 Fv ?_))))));refine G1 88 rfl Ld ?_;obtain⟨x23,gx23,hE⟩:=gO hE;refine Gc1 89 rfl rfl rfl rfl rfl (fun hC=>Z66_walk (gx23 hC)) ?_;refine S PA (S Mv (G0 Mv (S PA (S As (nil ?_)))));exact rt hE
 refine seqR (S BI (S As (nil ?_)));refine cE hE (fun hc25 hE=>?_) (fun hc25 hE=>?_)
 ·refine seqR (S Mv (S Mv (G0 Mv (S PA (S Mv (G0 Fv ?_))))));refine G1 102 rfl Ld ?_;obtain⟨x27,gx27,hE⟩:=gO hE;refine Gc1 103 rfl rfl rfl rfl rfl (fun hC=>Z66_walk (gx27 hC)) ?_;refine S PA (S Mv (G0 Mv (S PA (S As (nil ?_)))));exact rt hE
 refine seqR (S BI (S As (nil ?_)));refine cE hE (fun hc29 hE=>?_) (fun hc29 hE=>?_)
 ·refine seqR (S Mv (S Mv (G0 Mv (S PA (S Mv (G0 Mv (S PA (S Mv (G0 Fv ?_)))))))));refine G1 119 rfl Ld ?_;refine gC rfl rfl (fun hC=>ungdA (k:=120) rfl (lenM' (f:=Z5.c) (s:=a0.FInputs) (TK rfl) rfl rfl rfl)) rfl ?_;refine G1 121 rfl BI ?_;refine S PA (S Mv (G0 Fv ?_));refine G1 125 rfl Ld ?_;obtain⟨x31,gx31,hE⟩:=gO hE;refine Gc1 126 rfl rfl rfl rfl rfl (fun hC=>Z65_walk (gx31 hC)) ?_;refine S PA (S As (nil ?_))
  exact rt hE
 refine sk hK10 ?_;clear hK10 K10;refine seqR (S As (nil ?_));exact rt hE
end Go.Proofs

namespace Go.Proofs
open Go Go.Ab
open AOps Cert AWp Keeps KeepsT
variable {lou:Lou}
def Z59_j7  :Option Bool:=some true
def Z59_l10 (a0:TDoc) :Nat->Nat->Option Bool
 | 0,_=>none
 | n10+1,s3_11=>bif (decide (((s3_11:Nat):Int)<((a0.FDefs.l.length:Nat):Int))) then((a0.FDefs.l[s3_11]?).bind fun x18=>(Z62 x18).bind fun x19=>bif (!x19) then(some false) else((Z59_l10 a0 n10) (s3_11+1))) else(Z59_j7   )
def Z59 (a0:TDoc):Option Bool:=bif ((decide (((a0.FDefs.l.length:Nat):Int)<(1:Int)))||(decide ((64:Int)<((a0.FDefs.l.length:Nat):Int)))) then(some false) else(Z59_l10 a0 (a0.FDefs.l.length+1) 0)
theorem Z59_walk {a0:TDoc}{r:Bool}(hE:Z59 a0=some r) (H:Heap) :AC Tryz.prog 11 [.agg (TDoc.c a0)] H fun v h'=>v=.a (.d (.bool r))/\h'=H:=by
 unfold Z59 at hE;refine AC.oW 28 [.tmp 2] Tryz.call11 Tryz.func11 ?_;refine seqR (S BX (S As (nil ?_)));refine seqK fun K2 hK2=>?_;refine seqR (S Fv (S Ld ?_));refine sLen (f:=TDef.c) (s:=a0.FDefs) (TK rfl) rfl rfl rfl rfl fun hL4=>?_;refine S BI (S Mv (G0 Fv ?_));refine G1 9 rfl Ld ?_;refine gC rfl rfl (fun hC=>ungdA (k:=10) rfl (lenM' (f:=TDef.c) (s:=a0.FDefs) (TK rfl) rfl rfl rfl)) rfl ?_;refine G1 11 rfl BI ?_
 refine S PO (nil ?_);refine cE hE (fun hc5 hE=>?_) (fun hc5 hE=>?_)
 ·refine seqR (S As (nil ?_));exact rt hE
 refine sk hK2 ?_;clear hK2 K2;refine seqJH kN (fun(z:Unit)=>[]) (fun z=>H) (fun z=>Z59_j7 =some r) ?_ ?_
 ·intro K7 hK7;refine seqR (S As (nil ?_));refine block ?_;refine loopH (TA 1 kN) (fun(z:Nat×Nat)=>[(3,.a (.d (.int .i64 ((z.2:Nat):Int))))]) (fun z=>H) (fun z=>z.1) (fun z=>Z59_l10 a0 z.1 z.2=some r) ((a0.FDefs.l.length+1),0) hE wA ?_;rintro ⟨n10,s3_11⟩ hE K10 hK10;try dsimp only at hE
  cases n10 with
  | zero=>cases hE
  | succ n10 =>
    rw [Z59_l10] at hE;refine seqK fun K12 hK12=>?_;refine seqR (S Mv (S Fv (S Ld ?_)));refine sLen (f:=TDef.c) (s:=a0.FDefs) (TK rfl) rfl rfl rfl rfl fun hL14=>?_;refine S BI (nil ?_);refine cE hE (fun hc15 hE=>?_) (fun hc15 hE=>?_)
    ·try dsimp only at hc15
     have hf15:=oD hc15;refine sk hK12 ?_;clear hK12 K12;refine seqK fun K16 hK16=>?_;refine block ?_;refine seqR (S Fv (S Ld (S Mv ?_)));obtain⟨x18,gx18,hE⟩:=bO hE;refine S (ix TDef.c s3_11 gx18) (S Ld ?_);obtain⟨x19,gx19,hE⟩:=bO hE;refine Sc rfl rfl (Z62_walk gx19) ?_;refine S NB (nil ?_);refine cE hE (fun hc20 hE=>?_) (fun hc20 hE=>?_)
     ·refine seqR (S As (nil ?_));exact rt hE
     refine sk hK16 ?_;clear hK16 K16;refine region ?_;refine S Mv ?_;refine SI ?_;refine S As (nil ?_);exact hK10 _ (n10,(s3_11+1)) wA hE (nS _)
    refine AWp.exit ?_;exact hK7 _ () wA hE
 rintro _ hE;try dsimp only at hE
 unfold Z59_j7 at hE;refine seqR (S As (nil ?_));exact rt hE
def Z88 (a0:Bs):Option Bool:=some (((((a0==([73,110,116]:Bs)))||((a0==([83,116,114,105,110,103]:Bs))))||((a0==([66,111,111,108,101,97,110]:Bs))))||((a0==([73,68]:Bs))))
theorem Z88_walk {a0:Bs}{r:Bool}(hE:Z88 a0=some r) (H:Heap) :AC Tryz.prog 61 [.d (.str a0)] H fun v h'=>v=.a (.d (.bool r))/\h'=H:=by
 unfold Z88 at hE;refine AC.oW 17 [.tmp 2] Tryz.call61 Tryz.func61 ?_;refine seqR (S As (nil ?_));refine seqR (S Mv (S BS (S Mv (G0 Mv ?_))));refine G1 6 rfl BS ?_;refine S PO (S Mv (G0 Mv ?_));refine G1 10 rfl BS ?_;refine S PO (S Mv (G0 Mv ?_));refine G1 14 rfl BS ?_;refine S PO (S As (nil ?_));exact rt hE
def Z35 (a0:Bs):Option Bool:=guardO ((decide ((2:Int)<=((a0.length:Nat):Int)))) (a0[0]?) (0:UInt8) fun x4=>guardO (((decide ((2:Int)<=((a0.length:Nat):Int)))&&(decide (((x4.toNat:Nat):Int)=(95:Int))))) (a0[1]?) (0:UInt8) fun x5=>some (((decide ((2:Int)<=((a0.length:Nat):Int)))&&(decide (((x4.toNat:Nat):Int)=(95:Int))))&&(decide (((x5.toNat:Nat):Int)=(95:Int))))
theorem Z35_walk {a0:Bs}{r:Bool}(hE:Z35 a0=some r) (H:Heap) :AC Tryz.prog 124 [.d (.str a0)] H fun v h'=>v=.a (.d (.bool r))/\h'=H:=by
 unfold Z35 at hE;refine AC.oW 16 [.tmp 2] Tryz.call124 Tryz.func124 ?_;refine seqR (S As (nil ?_));refine seqR (S Mv ?_);refine sLenS (TK rfl) rfl rfl rfl rfl fun hL3=>?_;refine S BI (S Mv (G0 Mv ?_));obtain⟨x4,gx4,hE⟩:=gO hE;refine gC rfl rfl (fun hC=>ungdA (k:=7) rfl (idxSn (n:=0) (TK rfl) rfl rfl rfl (gx4 hC))) rfl ?_;refine G1 8 rfl BI ?_;refine S PA (S Mv (G0 Mv ?_));obtain⟨x5,gx5,hE⟩:=gO hE
 refine gC rfl rfl (fun hC=>ungdA (k:=12) rfl (idxSn (n:=1) (TK rfl) rfl rfl rfl (gx5 hC))) rfl ?_;refine G1 13 rfl BI ?_;refine S PA (S As (nil ?_));exact rt hE
def Z89 (a0:Bs):Option Bool:=(Z34 a0).bind fun x3=>guardO (x3) (Z35 a0) false fun x4=>some (x3&&(!x4))
theorem Z89_walk {a0:Bs}{r:Bool}(hE:Z89 a0=some r) (H:Heap) :AC Tryz.prog 100 [.d (.str a0)] H fun v h'=>v=.a (.d (.bool r))/\h'=H:=by
 unfold Z89 at hE;refine AC.oW 10 [.tmp 2] Tryz.call100 Tryz.func100 ?_;refine seqR (S As (nil ?_));refine seqR (S Mv ?_);obtain⟨x3,gx3,hE⟩:=bO hE;refine Sc rfl rfl (Z34_walk gx3) ?_;refine S Mv (G0 Mv ?_);obtain⟨x4,gx4,hE⟩:=gO hE;refine Gc1 6 rfl rfl rfl rfl rfl (fun hC=>Z35_walk (gx4 hC)) ?_;refine G1 7 rfl NB ?_;refine S PA (S As (nil ?_));exact rt hE
def Z98_j5  (s9_6:(Sl Z3)):Option (Sl Z3):=some s9_6
def Z98_j3 (a2:Bool) (a3:Bs)  (s9_4:(Sl Z3)):Option (Sl Z3):=bif a2 then((appC 24 s9_4 (⟨false,[(Z3.mk (7:Int) a3)]⟩:Sl Z3)).bind fun x10=>Z98_j5   x10) else(Z98_j5   s9_4)
def Z98 (a0:Bs) (a1:Bool) (a2:Bool) (a3:Bs):Option (Sl Z3):=guardO (!a1) (Z89 a0) false fun x12=>bif (a1||(!x12)) then((appC 24 (Sl.nil:Sl Z3) (⟨false,[(Z3.mk (6:Int) a3)]⟩:Sl Z3)).bind fun x14=>Z98_j3 a2 a3  x14) else(Z98_j3 a2 a3  (Sl.nil:Sl Z3))
theorem Z98_walk {a0:Bs}{a1 a2:Bool}{a3:Bs}{r:Sl Z3}(hE:Z98 a0 a1 a2 a3=some r) (H:Heap) :AC Tryz.prog 62 [.d (.str a0),.d (.bool a1),.d (.bool a2),.d (.str a3)] H fun v h'=>v=.a (.d (Sl.d 2 Z3.c none r))/\h'=H:=by
 unfold Z98 at hE;refine AC.oW 28 [.tmp 8] Tryz.call62 Tryz.func62 ?_;refine AWp.tok 2 fun tk1 htk1=>?_;refine seqR ?_;refine s0 (assignNil (k':=2) rfl) rfl ?_;refine nil ?_;refine seqR (S As (nil ?_));refine AWp.nilTok 9 2 tk1 rfl hpG ?_;refine seqJH (TA 2 (TA 3 kN)) (fun(z:(Sl Z3))=>[(9,.a (.d (Sl.d 2 Z3.c (some tk1) z)))]) (fun z=>(H.set tk1 (some (.tok 2 z.l.length)))) (fun z=>Z98_j3 a2 a3 z=some r) ?_ ?_
 ·intro K3 hK3;refine seqR (S Mv (S Mv (G0 Mv ?_)));obtain⟨x12,gx12,hE⟩:=gO hE;refine Gc1 12 rfl rfl rfl rfl rfl (fun hC=>Z89_walk (gx12 hC)) ?_;refine G1 13 rfl NB ?_;refine S PO (nil ?_);refine cE hE (fun hc13 hE=>?_) (fun hc13 hE=>?_)
  ·refine region ?_;refine S Mv (S Mv (S BU (S BV ?_)));obtain⟨x14,gx14,hE⟩:=bO hE;refine SH (am Z3.c (TK rfl) rfl (TK rfl) (TK rfl) gx14) ?_;refine hq (H.set tk1 (some (.tok 2 x14.l.length))) ?_;refine S As (nil ?_);exact hK3 _ x14 wA hE
  refine AWp.skip ?_;exact hK3 _ (Sl.nil:Sl Z3) wA hE
 rintro s9_4 hE;try dsimp only at hE
 unfold Z98_j3 at hE;refine seqJH kN (fun(z:(Sl Z3))=>[(9,.a (.d (Sl.d 2 Z3.c (some tk1) z)))]) (fun z=>(H.set tk1 (some (.tok 2 z.l.length)))) (fun z=>Z98_j5 z=some r) ?_ ?_
 ·intro K5 hK5;refine seqR (S Mv (nil ?_));refine cE hE (fun hc9 hE=>?_) (fun hc9 hE=>?_)
  ·refine region ?_;refine S Mv (S Mv (S BU (S BV ?_)));obtain⟨x10,gx10,hE⟩:=bO hE;refine SH (am Z3.c (TK rfl) rfl (TK rfl) (TK rfl) gx10) ?_;refine hq (H.set tk1 (some (.tok 2 x10.l.length))) ?_;refine S As (nil ?_);exact hK5 _ x10 wA hE
  refine AWp.skip ?_;exact hK5 _ s9_4 wA hE
 rintro s9_6 hE;try dsimp only at hE
 unfold Z98_j5 at hE;refine seqR (S Mv (S As (nil ?_)));refine AWp.dropTok 8 rfl ?_;refine AWp.ret ?_;repeat (first|refine xBlock_ret ?_|refine xThen_ret ?_)
 obtain rfl:=oJ hE;refine retQ.retF H rfl ⟨rfl,rfl⟩ ?_
 first|exact Heap.sub_set htk1|(simp only [Heap.set_set]; exact Heap.sub_set htk1)
theorem Z98_tok {a0:Bs}{a1 a2:Bool}{a3:Bs}{r:Sl Z3}(hE:Z98 a0 a1 a2 a3=some r) (H:Heap){tk0:Nat}(htk0:H tk0=some (.tok 2 0)):AC Tryz.prog 62 [.d (.str a0),.d (.bool a1),.d (.bool a2),.d (.str a3)] H fun v h'=>v=.a (.d (Sl.d 2 Z3.c (some tk0) r))/\h'=H.set tk0 (some (.tok 2 r.l.length)):=by
 unfold Z98 at hE;refine AC.oW 28 [.tmp 8] Tryz.call62 Tryz.func62 ?_;refine AWp.heqA (h':=(H.set tk0 (some (.tok 2 0)))) (by funext n_; simp only [Heap.set]; (repeat' split)<;>simp_all) ?_;refine seqR (S As (nil ?_));refine seqR (S As (nil ?_));refine AWp.nilTok 9 2 tk0 rfl hpG ?_;refine seqJH (TA 2 (TA 3 kN)) (fun(z:(Sl Z3))=>[(9,.a (.d (Sl.d 2 Z3.c (some tk0) z)))]) (fun z=>(H.set tk0 (some (.tok 2 z.l.length)))) (fun z=>Z98_j3 a2 a3 z=some r) ?_ ?_
 ·intro K3 hK3;refine seqR (S Mv (S Mv (G0 Mv ?_)));obtain⟨x12,gx12,hE⟩:=gO hE;refine Gc1 12 rfl rfl rfl rfl rfl (fun hC=>Z89_walk (gx12 hC)) ?_;refine G1 13 rfl NB ?_;refine S PO (nil ?_);refine cE hE (fun hc13 hE=>?_) (fun hc13 hE=>?_)
  ·refine region ?_;refine S Mv (S Mv (S BU (S BV ?_)));obtain⟨x14,gx14,hE⟩:=bO hE;refine SH (am Z3.c (TK rfl) rfl (TK rfl) (TK rfl) gx14) ?_;refine hq (H.set tk0 (some (.tok 2 x14.l.length))) ?_;refine S As (nil ?_);exact hK3 _ x14 wA hE
  refine AWp.skip ?_;exact hK3 _ (Sl.nil:Sl Z3) wA hE
 rintro s9_4 hE;try dsimp only at hE
 unfold Z98_j3 at hE;refine seqJH kN (fun(z:(Sl Z3))=>[(9,.a (.d (Sl.d 2 Z3.c (some tk0) z)))]) (fun z=>(H.set tk0 (some (.tok 2 z.l.length)))) (fun z=>Z98_j5 z=some r) ?_ ?_
 ·intro K5 hK5;refine seqR (S Mv (nil ?_));refine cE hE (fun hc9 hE=>?_) (fun hc9 hE=>?_)
  ·refine region ?_;refine S Mv (S Mv (S BU (S BV ?_)));obtain⟨x10,gx10,hE⟩:=bO hE;refine SH (am Z3.c (TK rfl) rfl (TK rfl) (TK rfl) gx10) ?_;refine hq (H.set tk0 (some (.tok 2 x10.l.length))) ?_;refine S As (nil ?_);exact hK5 _ x10 wA hE
  refine AWp.skip ?_;exact hK5 _ s9_4 wA hE
 rintro s9_6 hE;try dsimp only at hE
 unfold Z98_j5 at hE;refine seqR (S Mv (S As (nil ?_)));exact rt hE
def Z92_j2  :Option Bool:=some false
def Z92_j10 (a0:TDef)  (s12_11:Bool):Option Bool:=bif s12_11 then(some (decide (((a0.FMembers.l.length:Nat):Int)=(0:Int)))) else(bif (decide (a0.FKind=(5:Int))) then(some (decide (((a0.FInputs.l.length:Nat):Int)=(0:Int)))) else(Z92_j2   ))
def Z92_j5 (a0:TDef)  (s5_6:Bool):Option Bool:=bif s5_6 then(some (decide (((a0.FFields.l.length:Nat):Int)=(0:Int)))) else(bif (decide (a0.FKind=(3:Int))) then(Z92_j10 a0  (decide (a0.FKind=(3:Int)))) else(Z92_j10 a0  (decide (a0.FKind=(4:Int)))))
def Z92 (a0:TDef):Option Bool:=bif (decide (a0.FKind=(1:Int))) then(Z92_j5 a0  (decide (a0.FKind=(1:Int)))) else(Z92_j5 a0  (decide (a0.FKind=(2:Int))))
theorem Z92_walk {a0:TDef}{r:Bool}(hE:Z92 a0=some r) (H:Heap) :AC Tryz.prog 63 [.agg (TDef.c a0)] H fun v h'=>v=.a (.d (.bool r))/\h'=H:=by
 unfold Z92 at hE;refine AC.oW 25 [.tmp 2] Tryz.call63 Tryz.func63 ?_;refine seqR (S BX (S As (nil ?_)));refine seqJH kN (fun(z:Unit)=>[]) (fun z=>H) (fun z=>Z92_j2 =some r) ?_ ?_
 ·intro K2 hK2;refine seqR (S Fv (S Ld (nil ?_)));refine block ?_;refine seqJH (TA 1 (TA 4 kN)) (fun(z:Bool)=>[(5,.a (.d (.bool z)))]) (fun z=>H) (fun z=>Z92_j5 a0 z=some r) ?_ ?_
  ·intro K5 hK5;refine seqR (S BI (S As (nil ?_)));refine cE hE (fun hc22 hE=>?_) (fun hc22 hE=>?_)
   ·refine AWp.skip ?_;exact hK5 _ (decide (a0.FKind=(1:Int))) wA hE
   refine region ?_;refine S BI (S As (nil ?_));exact hK5 _ (decide (a0.FKind=(2:Int))) wA hE
  rintro s5_6 hE;try dsimp only at hE
  unfold Z92_j5 at hE;refine cE hE (fun hc7 hE=>?_) (fun hc7 hE=>?_)
  ·refine seqR (S Fv (S Ld ?_));refine sLen (f:=Z4.c) (s:=a0.FFields) (TK rfl) rfl rfl rfl rfl fun hL9=>?_;refine S BI (S As (nil ?_));exact rt hE
  refine seqJH (TA 1 (TA 4 kN)) (fun(z:Bool)=>[(12,.a (.d (.bool z)))]) (fun z=>H) (fun z=>Z92_j10 a0 z=some r) ?_ ?_
  ·intro K10 hK10;refine seqR (S BI (S As (nil ?_)));refine cE hE (fun hc20 hE=>?_) (fun hc20 hE=>?_)
   ·refine AWp.skip ?_;exact hK10 _ (decide (a0.FKind=(3:Int))) wA hE
   refine region ?_;refine S BI (S As (nil ?_));exact hK10 _ (decide (a0.FKind=(4:Int))) wA hE
  rintro s12_11 hE;try dsimp only at hE
  unfold Z92_j10 at hE;refine cE hE (fun hc12 hE=>?_) (fun hc12 hE=>?_)
  ·refine seqR (S Fv (S Ld ?_));refine sLen (f:=Z6.c) (s:=a0.FMembers) (TK rfl) rfl rfl rfl rfl fun hL14=>?_;refine S BI (S As (nil ?_));exact rt hE
  refine seqR (S BI (S As (nil ?_)));refine cE hE (fun hc16 hE=>?_) (fun hc16 hE=>?_)
  ·refine seqR (S Fv (S Ld ?_));refine sLen (f:=Z5.c) (s:=a0.FInputs) (TK rfl) rfl rfl rfl rfl fun hL18=>?_;refine S BI (S As (nil ?_));exact rt hE
  refine AWp.skip ?_;exact hK2 _ () wA hE
 rintro _ hE;try dsimp only at hE
 unfold Z92_j2 at hE;refine seqR (S As (nil ?_));exact rt hE
def Z84_j2  (y3_l0:TDef):Option (TDef×Bool):=some ((TDef.mk (0:Int) ([]:Bs) (Sl.nil:Sl Bs) (Sl.nil:Sl TDir) (Sl.nil:Sl Z4) (Sl.nil:Sl Z6) (Sl.nil:Sl Z5)),false)
def Z84_l6 (a0:TDoc) (a1:Bs) :Nat->Nat->TDef->Option (TDef×Bool)
 | 0,_,_=>none
 | n6+1,s6_7,y8_l0=>bif (decide (((s6_7:Nat):Int)<((a0.FDefs.l.length:Nat):Int))) then((a0.FDefs.l[s6_7]?).bind fun x15=>bif ((x15.FName==a1)) then((a0.FDefs.l[s6_7]?).bind fun x18=>some (x18,true)) else((Z84_l6 a0 a1 n6) (s6_7+1) y8_l0)) else(Z84_j2   y8_l0)
def Z84 (a0:TDoc) (a1:Bs):Option (TDef×Bool):=Z84_l6 a0 a1 (a0.FDefs.l.length+1) 0 TDef.zero
theorem Z84_walk {a0:TDoc}{a1:Bs}{r:TDef×Bool}(hE:Z84 a0 a1=some r) (H:Heap) :AC Tryz.prog 35 [.agg (TDoc.c a0),.d (.str a1)] H fun v h'=>v=.tup [.agg (TDef.c r.1),.d (.bool r.2)]/\h'=H:=by
 unfold Z84 at hE;refine AC.oW 28 [.cell 4 50,.tmp 5] Tryz.call35 Tryz.func35 ?_;refine seqR (S BX ?_);refine Sl ?_;refine S As (nil ?_);refine seqJ (TA 4 kN) (fun(z:TDef)=>[]) (fun z=>[TDef.c z]) (fun z=>H) (fun z=>Z84_j2 z=some r) ?_ ?_
 ·intro K2 hK2;refine seqR (S As (nil ?_));refine block ?_;refine loopO (TA 1 (TA 2 (TA 4 kN))) (fun(z:Nat×Nat×TDef)=>[(6,.a (.d (.int .i64 ((z.2.1:Nat):Int))))]) (fun z=>[TDef.c z.2.2]) (fun z=>H) (fun z=>z.1) (fun z=>Z84_l6 a0 a1 z.1 z.2.1 z.2.2=some r) ((a0.FDefs.l.length+1),0,TDef.zero) hE wA ?_;rintro ⟨n6,s6_7,y8_l0⟩ hE K6 hK6;try dsimp only at hE
  cases n6 with
  | zero=>cases hE
  | succ n6 =>
    rw [Z84_l6] at hE;refine seqK fun K9 hK9=>?_;refine seqR (S Mv (S Fv (S Ld ?_)));refine sLen (f:=TDef.c) (s:=a0.FDefs) (TK rfl) rfl rfl rfl rfl fun hL11=>?_;refine S BI (nil ?_);refine cE hE (fun hc12 hE=>?_) (fun hc12 hE=>?_)
    ·try dsimp only at hc12
     have hf12:=oD hc12;refine sk hK9 ?_;clear hK9 K9;refine seqK fun K13 hK13=>?_;refine block ?_;refine seqR (S Fv (S Ld (S Mv ?_)));obtain⟨x15,gx15,hE⟩:=bO hE;refine S (ix TDef.c s6_7 gx15) (S Fv (S Ld (S Mv (S BS (nil ?_)))));refine cE hE (fun hc16 hE=>?_) (fun hc16 hE=>?_)
     ·refine seqR (S Fv (S Ld (S Mv ?_)));obtain⟨x18,gx18,hE⟩:=bO hE;refine S (ix TDef.c s6_7 gx18) (S Ld ?_);refine Sf ?_;refine S As (nil ?_);exact rt hE
     refine sk hK13 ?_;clear hK13 K13;refine region ?_;refine S Mv ?_;refine SI ?_;refine S As (nil ?_);exact hK6 _ (n6,(s6_7+1),y8_l0) wA hE (nS _)
    refine AWp.exit ?_;exact hK2 _ y8_l0 wA hE
 rintro y3_l0 hE;try dsimp only at hE
 unfold Z84_j2 at hE;refine seqR (S BU ?_);refine Sf ?_;refine S As (nil ?_);exact rt hE
def Z94_j2  :Option Bool:=some false
def Z94_l5 (a0:(Sl Bs)) (a1:Bs) :Nat->Nat->Option Bool
 | 0,_=>none
 | n5+1,s5_6=>bif (decide (((s5_6:Nat):Int)<((a0.l.length:Nat):Int))) then((a0.l[s5_6]?).bind fun x13=>bif ((x13==a1)) then(some true) else((Z94_l5 a0 a1 n5) (s5_6+1))) else(Z94_j2   )
def Z94 (a0:(Sl Bs)) (a1:Bs):Option Bool:=Z94_l5 a0 a1 (a0.l.length+1) 0
theorem Z94_walk {a0:Sl Bs}{a1:Bs}{w0:Option Nat}{r:Bool}(hE:Z94 a0 a1=some r) (H:Heap) :AC Tryz.prog 102 [.d (Sl.d 1 strE w0 a0),.d (.str a1)] H fun v h'=>v=.a (.d (.bool r))/\h'=H:=by
 unfold Z94 at hE;refine AC.oW 18 [.tmp 4] Tryz.call102 Tryz.func102 ?_;refine seqR (S As (nil ?_));refine seqJH kN (fun(z:Unit)=>[]) (fun z=>H) (fun z=>Z94_j2 =some r) ?_ ?_
 ·intro K2 hK2;refine seqR (S As (nil ?_));refine block ?_;refine loopH (TA 0 (TA 1 kN)) (fun(z:Nat×Nat)=>[(5,.a (.d (.int .i64 ((z.2:Nat):Int))))]) (fun z=>H) (fun z=>z.1) (fun z=>Z94_l5 a0 a1 z.1 z.2=some r) ((a0.l.length+1),0) hE wA ?_;rintro ⟨n5,s5_6⟩ hE K5 hK5;try dsimp only at hE
  cases n5 with
  | zero=>cases hE
  | succ n5 =>
    rw [Z94_l5] at hE;refine seqK fun K7 hK7=>?_;refine seqR (S Mv (S Mv ?_));refine sLen (f:=strE) (s:=a0) (TK rfl) rfl rfl rfl rfl fun hL9=>?_;refine S BI (nil ?_);refine cE hE (fun hc10 hE=>?_) (fun hc10 hE=>?_)
    ·try dsimp only at hc10
     have hf10:=oD hc10;refine sk hK7 ?_;clear hK7 K7;refine seqK fun K11 hK11=>?_;refine block ?_;refine seqR (S Mv (S Mv ?_));obtain⟨x13,gx13,hE⟩:=bO hE;refine S (ix strE s5_6 gx13) (S Ld (S Mv (S BS (nil ?_))));refine cE hE (fun hc14 hE=>?_) (fun hc14 hE=>?_)
     ·refine seqR (S As (nil ?_));exact rt hE
     refine sk hK11 ?_;clear hK11 K11;refine region ?_;refine S Mv ?_;refine SI ?_;refine S As (nil ?_);exact hK5 _ (n5,(s5_6+1)) wA hE (nS _)
    refine AWp.exit ?_;exact hK2 _ () wA hE
 rintro _ hE;try dsimp only at hE
 unfold Z94_j2 at hE;refine seqR (S As (nil ?_));exact rt hE
def Z91 (a0:TRef):Option Bool:=guardO ((decide (((a0.FWraps.l.length:Nat):Int)=(1:Int)))) (a0.FWraps.l[0]?) (0:Int) fun x4=>some ((decide (((a0.FWraps.l.length:Nat):Int)=(1:Int)))&&(decide (x4=(1:Int))))
theorem Z91_walk {a0:TRef}{r:Bool}(hE:Z91 a0=some r) (H:Heap) :AC Tryz.prog 125 [.agg (TRef.c a0)] H fun v h'=>v=.a (.d (.bool r))/\h'=H:=by
 unfold Z91 at hE;refine AC.oW 14 [.tmp 2] Tryz.call125 Tryz.func125 ?_;refine seqR (S BX (S As (nil ?_)));refine seqR (S Fv (S Ld ?_));refine sLen (f:=(intE .i64)) (s:=a0.FWraps) (TK rfl) rfl rfl rfl rfl fun hL3=>?_;refine S BI (S Mv (G0 Fv ?_));refine G1 8 rfl Ld ?_;obtain⟨x4,gx4,hE⟩:=gO hE;refine gC rfl rfl (fun hC=>ungdA (k:=9) rfl (idxMn (f:=(intE .i64)) (n:=0) (TK rfl) rfl (TK rfl) rfl rfl rfl (gx4 hC))) rfl ?_
 refine G1 10 rfl Ld ?_;refine G1 11 rfl BI ?_;refine S PA (S As (nil ?_));exact rt hE
end Go.Proofs

namespace Go.Proofs
open Go Go.Ab
open AOps Cert AWp Keeps KeepsT
variable {lou:Lou}
def Z99_j2  (s3_3:(Sl Bs)):Option (Sl Bs):=some s3_3
def Z99_j13 (s9_8:Nat) (k_next_6:(Sl Bs)->Nat->Option (Sl Bs)) (s3_14:(Sl Bs)):Option (Sl Bs):=k_next_6 s3_14 (s9_8+1)
def Z99_l6 (a0:TDoc) (a1:TDef) (a2:Bs) :Nat->(Sl Bs)->Nat->Option (Sl Bs)
 | 0,_,_=>none
 | n6+1,s3_7,s9_8=>bif (decide (((s9_8:Nat):Int)<((a1.FInputs.l.length:Nat):Int))) then((a1.FInputs.l[s9_8]?).bind fun x16=>(Z84 a0 x16.FType.FName).bind fun x18=>(Z91 x16.FType).bind fun x20=>guardO ((x20&&(((x16.FType.FName==a2))||(x18.2&&(decide (x18.1.FKind=(5:Int))))))) (Z94 s3_7 x16.FType.FName) false fun x21=>bif ((x20&&(((x16.FType.FName==a2))||(x18.2&&(decide (x18.1.FKind=(5:Int))))))&&(!x21)) then((appC 16 s3_7 (⟨false,[x16.FType.FName]⟩:Sl Bs)).bind fun x23=>Z99_j13 s9_8 ((Z99_l6 a0 a1 a2 n6)) x23) else(Z99_j13 s9_8 ((Z99_l6 a0 a1 a2 n6)) s3_7)) else(Z99_j2   s3_7)
def Z99 (a0:TDoc) (a1:TDef) (a2:Bs) (a3:(Sl Bs)):Option (Sl Bs):=Z99_l6 a0 a1 a2 (a1.FInputs.l.length+1) a3 0
theorem Z99_walk {a0:TDoc}{a1:TDef}{a2:Bs}{a3:Sl Bs}{g3:Nat}{r:Sl Bs}(hE:Z99 a0 a1 a2 a3=some r) (H:Heap) (hg3:H g3=some (.tok 1 a3.l.length)):AC Tryz.prog 101 [.agg (TDoc.c a0),.agg (TDef.c a1),.d (.str a2),.d (Sl.d 1 strE (some g3) a3)] H fun v h'=>v=.a (.d (Sl.d 1 strE (some g3) r))/\h'=(H.set g3 (some (.tok 1 r.l.length))):=by
 unfold Z99 at hE;refine AC.oW 62 [.tmp 8] Tryz.call101 Tryz.func101 ?_;refine AWp.heqA (h':=(H.set g3 (some (.tok 1 a3.l.length)))) (by funext n_; simp only [Heap.set]; (repeat' split)<;>simp_all) ?_;refine seqR (S BX (S BX (S As (nil ?_))));refine seqJH kN (fun(z:(Sl Bs))=>[(3,.a (.d (Sl.d 1 strE (some g3) z)))]) (fun z=>(H.set g3 (some (.tok 1 z.l.length)))) (fun z=>Z99_j2 z=some r) ?_ ?_
 ·intro K2 hK2;refine seqR (S As (nil ?_));refine block ?_;refine loopH (TA 2 (TA 4 (TA 5 kN))) (fun(z:Nat×(Sl Bs)×Nat)=>[(3,.a (.d (Sl.d 1 strE (some g3) z.2.1))),(9,.a (.d (.int .i64 ((z.2.2:Nat):Int))))]) (fun z=>(H.set g3 (some (.tok 1 z.2.1.l.length)))) (fun z=>z.1) (fun z=>Z99_l6 a0 a1 a2 z.1 z.2.1 z.2.2=some r) ((a1.FInputs.l.length+1),a3,0) hE wA ?_;rintro ⟨n6,s3_7,s9_8⟩ hE K6 hK6
  try dsimp only at hE
  cases n6 with
  | zero=>cases hE
  | succ n6 =>
    rw [Z99_l6] at hE;refine seqK fun K9 hK9=>?_;refine seqR (S Mv (S Fv (S Ld ?_)));refine sLen (f:=Z5.c) (s:=a1.FInputs) (TK rfl) rfl rfl rfl rfl fun hL11=>?_;refine S BI (nil ?_);refine cE hE (fun hc12 hE=>?_) (fun hc12 hE=>?_)
    ·try dsimp only at hc12
     have hf12:=oD hc12;refine sk hK9 ?_;clear hK9 K9;refine seqJH (TA 2 (TA 4 (TA 5 (TA 9 kN)))) (fun(z:(Sl Bs))=>[(3,.a (.d (Sl.d 1 strE (some g3) z)))]) (fun z=>(H.set g3 (some (.tok 1 z.l.length)))) (fun z=>Z99_j13 s9_8 ((Z99_l6 a0 a1 a2 n6)) z=some r) ?_ ?_
     ·intro K13 hK13;refine block ?_;refine seqR (S Fv (S Ld (S Mv ?_)));obtain⟨x16,gx16,hE⟩:=bO hE;refine S (ix Z5.c s9_8 gx16) (S Fv (S Ld ?_));refine Sl ?_;refine Sf ?_;refine nil ?_;refine freezeA 10 _ rfl (KA 2 (KA 3 (KA 4 (KA 5 (KA 9 Keeps.nil))))) ?_;refine seqR (S Ld (S Fv (S Ld ?_)));obtain⟨x18,gx18,hE⟩:=bO hE;refine Sc rfl rfl (Z84_walk gx18) ?_;refine S Mv (S EX (S EX ?_));refine Sl ?_;refine Sf ?_
      refine S As (nil ?_);refine freezeA 11 _ rfl (KA 2 (KA 3 (KA 4 (KA 5 (KA 9 (KA 10 (KA 12 Keeps.nil))))))) ?_;refine seqR (S Ld ?_);obtain⟨x20,gx20,hE⟩:=bO hE;refine Sc rfl rfl (Z91_walk gx20) ?_;refine S Mv (G0 Fv ?_);refine G1 36 rfl Ld ?_;refine G0 Mv ?_;refine G2 37 38 rfl rfl BS ?_;refine G1 39 rfl Mv ?_;refine G0 Mv ?_;refine G1 41 rfl Mv ?_;refine G0 Fv ?_;refine G1 43 rfl Ld ?_;refine G1 44 rfl BI ?_
      refine gC rfl rfl (fun hC=>ungdA (k:=42) rfl (pickAndA rfl rfl rfl)) rfl ?_;refine gC rfl rfl (fun hC=>ungdA (k:=40) rfl (pickOrA rfl rfl rfl)) rfl ?_;refine S PA (S Mv (G0 Mv (G0 Fv ?_)));refine G1 51 rfl Ld ?_;obtain⟨x21,gx21,hE⟩:=gO hE;refine Gc2 50 52 rfl rfl rfl rfl rfl rfl (fun hC=>Z94_walk (gx21 hC)) ?_;refine G1 53 rfl NB ?_;refine S PA (nil ?_);refine cE hE (fun hc22 hE=>?_) (fun hc22 hE=>?_)
      ·refine region ?_;refine S Mv (S Fv (S Ld (S BV ?_)));obtain⟨x23,gx23,hE⟩:=bO hE;refine SH (am strE (TK rfl) rfl (TK rfl) (TK rfl) gx23) ?_;refine hq (H.set g3 (some (.tok 1 x23.l.length))) ?_;refine S As (nil ?_);exact hK13 _ x23 wA hE
      refine AWp.skip ?_;exact hK13 _ s3_7 wA hE
     rintro s3_14 hE;try dsimp only at hE
     unfold Z99_j13 at hE;refine region ?_;refine S Mv ?_;refine SI ?_;refine S As (nil ?_);exact hK6 _ (n6,s3_14,(s9_8+1)) wA hE (nS _)
    refine AWp.exit ?_;exact hK2 _ s3_7 wA hE
 rintro s3_3 hE;try dsimp only at hE
 unfold Z99_j2 at hE;refine seqR (S Mv (S As (nil ?_)));exact rt hE
def Z90_j8 (a1:TDef)  (s5_9:(Sl Bs)):Option Bool:=(Z94 s5_9 a1.FName).bind fun x11=>some x11
def Z90_l13 (a0:TDoc) (a1:TDef) :Nat->(Sl Bs)->Nat->Option Bool
 | 0,_,_=>none
 | n13+1,s5_14,s6_15=>bif (decide (((s6_15:Nat):Int)<((s5_14.l.length:Nat):Int))) then((s5_14.l[s6_15]?).bind fun x22=>(Z84 a0 x22).bind fun x23=>(Z99 a0 x23.1 a1.FName s5_14).bind fun x24=>(Z90_l13 a0 a1 n13) x24 (s6_15+1)) else(Z90_j8 a1  s5_14)
def Z90 (a0:TDoc) (a1:TDef):Option Bool:=bif (!decide (a1.FKind=(5:Int))) then(some false) else((Z99 a0 a1 a1.FName (Sl.nil:Sl Bs)).bind fun x7=>Z90_l13 a0 a1 F0 x7 0)
theorem Z90_walk {a0:TDoc}{a1:TDef}{r:Bool}(hE:Z90 a0 a1=some r) (H:Heap) :AC Tryz.prog 64 [.agg (TDoc.c a0),.agg (TDef.c a1)] H fun v h'=>v=.a (.d (.bool r))/\h'=H:=by
 unfold Z90 at hE;refine AC.oW 42 [.tmp 4] Tryz.call64 Tryz.func64 ?_;refine AWp.tok 1 fun tk1 htk1=>?_;refine seqR (S BX (S BX (S As (nil ?_))));refine seqK fun K2 hK2=>?_;refine seqR (S Fv (S Ld (S BI (nil ?_))));refine cE hE (fun hc4 hE=>?_) (fun hc4 hE=>?_)
 ·refine seqR (S As (nil ?_));refine AWp.ret ?_;repeat (first|refine xBlock_ret ?_|refine xThen_ret ?_)
  obtain rfl:=oJ hE;refine retQ.retF H rfl ⟨rfl,rfl⟩ ?_
  first|exact Heap.sub_set htk1|(simp only [Heap.set_set]; exact Heap.sub_set htk1)
 refine sk hK2 ?_;clear hK2 K2;refine seqR (S Ld (S Ld (S Fv (S Ld ?_))));obtain⟨x7,gx7,hE⟩:=bO hE;refine sH (callH rfl rfl (AC.asArgs (.cons (.refl _) (.cons (.refl _) (.cons (.refl _) (.cons (AsArg.nil (k':=1) (t:=tk1) hpG) .nil)))) (Z99_walk gx7 _ hpG))) rfl ?_;refine hq (H.set tk1 (some (.tok 1 x7.l.length))) ?_;refine S As (nil ?_);refine seqJH (TA 3 kN) (fun(z:(Sl Bs))=>[(5,.a (.d (Sl.d 1 strE (some tk1) z)))]) (fun z=>(H.set tk1 (some (.tok 1 z.l.length)))) (fun z=>Z90_j8 a1 z=some r) ?_ ?_
 ·intro K8 hK8;refine seqR (S As (nil ?_));refine block ?_;refine loopH (TA 2 (TA 3 kN)) (fun(z:Nat×(Sl Bs)×Nat)=>[(5,.a (.d (Sl.d 1 strE (some tk1) z.2.1))),(6,.a (.d (.int .i64 ((z.2.2:Nat):Int))))]) (fun z=>(H.set tk1 (some (.tok 1 z.2.1.l.length)))) (fun z=>z.1) (fun z=>Z90_l13 a0 a1 z.1 z.2.1 z.2.2=some r) (F0,x7,0) hE wA ?_;rintro ⟨n13,s5_14,s6_15⟩ hE K13 hK13;try dsimp only at hE
  cases n13 with
  | zero=>cases hE
  | succ n13 =>
    rw [Z90_l13] at hE;refine seqK fun K16 hK16=>?_;refine seqR (S Mv (S Mv ?_));refine sLen (f:=strE) (s:=s5_14) (TK rfl) rfl rfl rfl rfl fun hL18=>?_;refine S BI (nil ?_);refine cE hE (fun hc19 hE=>?_) (fun hc19 hE=>?_)
    ·try dsimp only at hc19
     have hf19:=oD hc19;refine sk hK16 ?_;clear hK16 K16;refine seqK fun K20 hK20=>?_;refine block ?_;refine AWp.seqD (Sd Ld (Sd Mv (Sd Mv ?_)));obtain⟨x22,gx22,hE⟩:=bO hE;refine Sd (ix strE s6_15 gx22) (Sd Ld ?_);obtain⟨x23,gx23,hE⟩:=bO hE;refine Scd rfl rfl (Z84_walk gx23) ?_;refine Sd Mv (Sd EX (Sd EX ?_));refine DOps.sB (TK rfl) rfl rfl ?_ (by repeat (first|exact Snoc.nil|apply Snoc.cons))
     refine DOps.sLn (storeLFA (TK rfl) rfl rfl rfl rfl rfl) ?_;refine Sd As ?_;refine DOps.nil (by decide +kernel) ?_;refine freezeA 7 _ rfl (KA 2 (KA 3 (KA 5 (KA 6 Keeps.nil)))) ?_;refine region ?_;refine S Ld (S Ld (S Fv (S Ld (S Mv ?_))));obtain⟨x24,gx24,hE⟩:=bO hE;refine sH (callH rfl rfl (Z99_walk gx24 _ hpG)) rfl ?_;refine hq (H.set tk1 (some (.tok 1 x24.l.length))) ?_;refine S As (nil ?_);refine hK20 _ ?_
     clear hK20 K20;refine region ?_;refine S Mv ?_;refine SI ?_;refine S As (nil ?_);exact hK13 _ (n13,x24,(s6_15+1)) wA hE (nS _)
    refine AWp.exit ?_;exact hK8 _ s5_14 wA hE
 rintro s5_9 hE;try dsimp only at hE
 unfold Z90_j8 at hE;refine seqR (S Mv (S Fv (S Ld ?_)));obtain⟨x11,gx11,hE⟩:=bO hE;refine Sc rfl rfl (Z94_walk gx11) ?_;refine S As (nil ?_);refine AWp.ret ?_;repeat (first|refine xBlock_ret ?_|refine xThen_ret ?_)
 obtain rfl:=oJ hE;refine retQ.retF H rfl ⟨rfl,rfl⟩ ?_
 first|exact Heap.sub_set htk1|(simp only [Heap.set_set]; exact Heap.sub_set htk1)
def Z100_j15  (s8_16:(Sl Z3)):Option (Sl Z3):=some s8_16
def Z100_j13 (a0:TDoc) (x3:TDef)  (s8_14:(Sl Z3)):Option (Sl Z3):=(Z90 a0 x3).bind fun x19=>bif x19 then((appC 24 s8_14 (⟨false,[(Z3.mk (5:Int) x3.FName)]⟩:Sl Z3)).bind fun x21=>Z100_j15   x21) else(Z100_j15   s8_14)
def Z100_j10 (a0:TDoc) (x3:TDef)  (s8_11:(Sl Z3)):Option (Sl Z3):=bif (((((((x3.FName==([81,117,101,114,121]:Bs)))||((x3.FName==([77,117,116,97,116,105,111,110]:Bs))))||((x3.FName==([83,117,98,115,99,114,105,112,116,105,111,110]:Bs))))&&(!decide (x3.FKind=(1:Int))))||(decide (x3.FKind<(1:Int))))||(decide ((5:Int)<x3.FKind))) then((appC 24 s8_11 (⟨false,[(Z3.mk (9:Int) x3.FName)]⟩:Sl Z3)).bind fun x24=>Z100_j13 a0 x3  x24) else(Z100_j13 a0 x3  s8_11)
def Z100_j6 (a0:TDoc) (x3:TDef)  (s6_7:Bool):Option (Sl Z3):=(Z98 x3.FName false s6_7 x3.FName).bind fun x9=>(Z92 x3).bind fun x26=>bif x26 then((appC 24 x9 (⟨false,[(Z3.mk (8:Int) x3.FName)]⟩:Sl Z3)).bind fun x28=>Z100_j10 a0 x3  x28) else(Z100_j10 a0 x3  x9)
def Z100_l30 (a0:TDoc) (a1:Int) (x3:TDef) :Nat->Bool->Int->Option (Sl Z3)
 | 0,_,_=>none
 | n30+1,s6_31,s7_32=>bif (decide (s7_32<a1)) then(guardO (!s6_31) (idxC a0.FDefs.l s7_32) TDef.zero fun x37=>(addC s7_32 (1:Int)).bind fun x38=>(Z100_l30 a0 a1 x3 n30) (s6_31||((x37.FName==x3.FName))) x38) else(Z100_j6 a0 x3  s6_31)
def Z100 (a0:TDoc) (a1:Int):Option (Sl Z3):=(idxC a0.FDefs.l a1).bind fun x3=>(Z88 x3.FName).bind fun x5=>Z100_l30 a0 a1 x3 F0 x5 (0:Int)
theorem Z100_walk {a0:TDoc}{a1:Int}{r:Sl Z3}(hE:Z100 a0 a1=some r) (H:Heap) :AC Tryz.prog 31 [.agg (TDoc.c a0),.d (.int .i64 a1)] H fun v h'=>v=.a (.d (Sl.d 2 Z3.c none r))/\h'=H:=by
 unfold Z100 at hE;refine AC.oW 94 [.tmp 4] Tryz.call31 Tryz.func31 ?_;refine seqR (S BX ?_);refine s0 (assignNil (k':=2) rfl) rfl ?_;refine nil ?_;refine seqR (S Fv (S Ld (S Mv ?_)));obtain⟨x3,gx3,hE⟩:=bO hE;refine s0 (idxM (f:=TDef.c) (TK rfl) rfl (TK rfl) rfl rfl rfl gx3) rfl ?_;refine S Ld ?_;refine Sl ?_;refine Sf ?_;refine nil ?_;refine freezeA 5 _ rfl (KA 1 (KA 2 Keeps.nil)) ?_;refine seqR (S Fv (S Ld ?_))
 obtain⟨x5,gx5,hE⟩:=bO hE;refine Sc rfl rfl (Z88_walk gx5) ?_;refine S As (nil ?_);refine seqJH (TA 2 (TA 5 kN)) (fun(z:Bool)=>[(6,.a (.d (.bool z)))]) (fun z=>H) (fun z=>Z100_j6 a0 x3 z=some r) ?_ ?_
 ·intro K6 hK6;refine seqR (S As (nil ?_));refine block ?_;refine loopH (TA 1 (TA 2 (TA 5 kN))) (fun(z:Nat×Bool×Int)=>[(6,.a (.d (.bool z.2.1))),(7,.a (.d (.int .i64 z.2.2)))]) (fun z=>H) (fun z=>z.1) (fun z=>Z100_l30 a0 a1 x3 z.1 z.2.1 z.2.2=some r) (F0,x5,(0:Int)) hE wA ?_;rintro ⟨n30,s6_31,s7_32⟩ hE K30 hK30;try dsimp only at hE
  cases n30 with
  | zero=>cases hE
  | succ n30 =>
    rw [Z100_l30] at hE;refine seqK fun K33 hK33=>?_;refine seqR (S Mv (S Mv (S BI (nil ?_))));refine cE hE (fun hc35 hE=>?_) (fun hc35 hE=>?_)
    ·refine sk hK33 ?_;clear hK33 K33;refine seqK fun K36 hK36=>?_;refine block ?_;refine AWp.draw rfl ?_;refine Sd Mv (Sd Mv (G0d Fv ?_));refine G1d 25 rfl Ld ?_;refine G0d Mv ?_;obtain⟨x37,gx37,hE⟩:=gO hE;refine DOps.gC rfl rfl (fun hC=>ungdA (k:=26) rfl (ungdA (k:=27) rfl (idxM (f:=TDef.c) (TK rfl) rfl (TK rfl) rfl rfl rfl (gx37 hC)))) rfl ?_;refine G1d 28 rfl Fv ?_;refine G1d 29 rfl Ld ?_;refine G0d Fv ?_
     refine G1d 31 rfl Ld ?_;refine G2d 30 32 rfl rfl BS ?_;refine Sd PO (Sd As ?_);refine DOps.nil (by decide +kernel) ?_;refine hK36 _ ?_;clear hK36 K36;refine region ?_;refine S Mv ?_;obtain⟨x38,gx38,hE⟩:=bO hE;refine s0 (addM rfl rfl gx38) rfl ?_;refine S As (nil ?_);exact hK30 _ (n30,(s6_31||((x37.FName==x3.FName))),x38) wA hE (nS _)
    refine AWp.exit ?_;exact hK6 _ s6_31 wA hE
 rintro s6_7 hE;try dsimp only at hE
 unfold Z100_j6 at hE;refine AWp.tok 2 fun tk1 htk1=>?_;refine seqR (S Fv (S Ld (S Mv (S Fv (S Ld ?_)))));obtain⟨x9,gx9,hE⟩:=bO hE;refine sH (callH rfl rfl (Z98_tok gx9 _ hpG)) rfl ?_;refine hq (H.set tk1 (some (.tok 2 x9.l.length))) ?_;refine S As (nil ?_);refine seqJH (TA 2 (TA 5 kN)) (fun(z:(Sl Z3))=>[(8,.a (.d (Sl.d 2 Z3.c (some tk1) z)))]) (fun z=>(H.set tk1 (some (.tok 2 z.l.length)))) (fun z=>Z100_j10 a0 x3 z=some r) ?_ ?_
 ·intro K10 hK10;refine seqR (S Ld ?_);obtain⟨x26,gx26,hE⟩:=bO hE;refine Sc rfl rfl (Z92_walk gx26) ?_;refine nil ?_;refine cE hE (fun hc27 hE=>?_) (fun hc27 hE=>?_)
  ·refine region ?_;refine S Mv (S Fv (S Ld (S BU (S BV ?_))));obtain⟨x28,gx28,hE⟩:=bO hE;refine SH (am Z3.c (TK rfl) rfl (TK rfl) (TK rfl) gx28) ?_;refine hq (H.set tk1 (some (.tok 2 x28.l.length))) ?_;refine S As (nil ?_);exact hK10 _ x28 wA hE
  refine AWp.skip ?_;exact hK10 _ x9 wA hE
 rintro s8_11 hE;try dsimp only at hE
 unfold Z100_j10 at hE;refine seqR (S Fv (S Ld (S BS (S Mv (G0 Fv ?_)))));refine G1 53 rfl Ld ?_;refine G1 54 rfl BS ?_;refine S PO (S Mv (G0 Fv ?_));refine G1 58 rfl Ld ?_;refine G1 59 rfl BS ?_;refine S PO (S As (nil ?_));refine seqJH (TA 2 (TA 5 kN)) (fun(z:(Sl Z3))=>[(8,.a (.d (Sl.d 2 Z3.c (some tk1) z)))]) (fun z=>(H.set tk1 (some (.tok 2 z.l.length)))) (fun z=>Z100_j13 a0 x3 z=some r) ?_ ?_
 ·intro K13 hK13;refine seqR (S Mv (S Mv (G0 Fv ?_)));refine G1 64 rfl Ld ?_;refine G1 65 rfl BI ?_;refine S PA (S Mv (G0 Fv ?_));refine G1 69 rfl Ld ?_;refine G1 70 rfl BI ?_;refine S PO (S Mv (G0 Fv ?_));refine G1 74 rfl Ld ?_;refine G1 75 rfl BI ?_;refine S PO (nil ?_);refine cE hE (fun hc23 hE=>?_) (fun hc23 hE=>?_)
  ·refine region ?_;refine S Mv (S Fv (S Ld (S BU (S BV ?_))));obtain⟨x24,gx24,hE⟩:=bO hE;refine SH (am Z3.c (TK rfl) rfl (TK rfl) (TK rfl) gx24) ?_;refine hq (H.set tk1 (some (.tok 2 x24.l.length))) ?_;refine S As (nil ?_);exact hK13 _ x24 wA hE
  refine AWp.skip ?_;exact hK13 _ s8_11 wA hE
 rintro s8_14 hE;try dsimp only at hE
 unfold Z100_j13 at hE;refine seqJH kN (fun(z:(Sl Z3))=>[(8,.a (.d (Sl.d 2 Z3.c (some tk1) z)))]) (fun z=>(H.set tk1 (some (.tok 2 z.l.length)))) (fun z=>Z100_j15 z=some r) ?_ ?_
 ·intro K15 hK15;refine seqR (S Ld (S Ld ?_));obtain⟨x19,gx19,hE⟩:=bO hE;refine Sc rfl rfl (Z90_walk gx19) ?_;refine nil ?_;refine cE hE (fun hc20 hE=>?_) (fun hc20 hE=>?_)
  ·refine region ?_;refine S Mv (S Fv (S Ld (S BU (S BV ?_))));obtain⟨x21,gx21,hE⟩:=bO hE;refine SH (am Z3.c (TK rfl) rfl (TK rfl) (TK rfl) gx21) ?_;refine hq (H.set tk1 (some (.tok 2 x21.l.length))) ?_;refine S As (nil ?_);exact hK15 _ x21 wA hE
  refine AWp.skip ?_;exact hK15 _ s8_14 wA hE
 rintro s8_16 hE;try dsimp only at hE
 unfold Z100_j15 at hE;refine seqR (S Mv (S As (nil ?_)));refine AWp.dropTok 4 rfl ?_;refine AWp.ret ?_;repeat (first|refine xBlock_ret ?_|refine xThen_ret ?_)
 obtain rfl:=oJ hE;refine retQ.retF H rfl ⟨rfl,rfl⟩ ?_
 first|exact Heap.sub_set htk1|(simp only [Heap.set_set]; exact Heap.sub_set htk1)
def Z96 (a0:TDoc) (a1:Bs):Option Bool:=(Z84 a0 a1).bind fun x3=>(Z88 a1).bind fun x5=>some (x5||x3.2)
theorem Z96_walk {a0:TDoc}{a1:Bs}{r:Bool}(hE:Z96 a0 a1=some r) (H:Heap) :AC Tryz.prog 66 [.agg (TDoc.c a0),.d (.str a1)] H fun v h'=>v=.a (.d (.bool r))/\h'=H:=by
 unfold Z96 at hE;refine AC.oW 18 [.tmp 4] Tryz.call66 Tryz.func66 ?_;refine seqR (S BX (S As (nil ?_)));refine seqR (S Ld (S Mv ?_));obtain⟨x3,gx3,hE⟩:=bO hE;refine Sc rfl rfl (Z84_walk gx3) ?_;refine S Mv (S EX (S EX ?_));refine Sl ?_;refine Sf ?_;refine S As (nil ?_);refine freezeA 5 _ rfl (KA 1 (KA 6 Keeps.nil)) ?_;refine seqR (S Mv ?_);obtain⟨x5,gx5,hE⟩:=bO hE;refine Sc rfl rfl (Z88_walk gx5) ?_
 refine S Mv (G0 Mv (S PO (S As (nil ?_))));exact rt hE
def Z85_j2  (y3_l0:Z5):Option (Z5×Bool):=some ((Z5.mk ([]:Bs) TRef.zero false Z7.zero (Sl.nil:Sl TDir)),false)
def Z85_l6 (a0:(Sl Z5)) (a1:Bs) :Nat->Nat->Z5->Option (Z5×Bool)
 | 0,_,_=>none
 | n6+1,s6_7,y8_l0=>bif (decide (((s6_7:Nat):Int)<((a0.l.length:Nat):Int))) then((a0.l[s6_7]?).bind fun x15=>bif ((x15.FName==a1)) then((a0.l[s6_7]?).bind fun x18=>some (x18,true)) else((Z85_l6 a0 a1 n6) (s6_7+1) y8_l0)) else(Z85_j2   y8_l0)
def Z85 (a0:(Sl Z5)) (a1:Bs):Option (Z5×Bool):=Z85_l6 a0 a1 (a0.l.length+1) 0 Z5.zero
theorem Z85_walk {a0:Sl Z5}{a1:Bs}{w0:Option Nat}{r:Z5×Bool}(hE:Z85 a0 a1=some r) (H:Heap) :AC Tryz.prog 67 [.d (Sl.d 10 Z5.c w0 a0),.d (.str a1)] H fun v h'=>v=.tup [.agg (Z5.c r.1),.d (.bool r.2)]/\h'=H:=by
 unfold Z85 at hE;refine AC.oW 25 [.cell 4 82,.tmp 5] Tryz.call67 Tryz.func67 ?_;refine seqR ?_;refine Sl ?_;refine S As (nil ?_);refine seqJ (TA 4 kN) (fun(z:Z5)=>[]) (fun z=>[Z5.c z]) (fun z=>H) (fun z=>Z85_j2 z=some r) ?_ ?_
 ·intro K2 hK2;refine seqR (S As (nil ?_));refine block ?_;refine loopO (TA 0 (TA 1 (TA 4 kN))) (fun(z:Nat×Nat×Z5)=>[(6,.a (.d (.int .i64 ((z.2.1:Nat):Int))))]) (fun z=>[Z5.c z.2.2]) (fun z=>H) (fun z=>z.1) (fun z=>Z85_l6 a0 a1 z.1 z.2.1 z.2.2=some r) ((a0.l.length+1),0,Z5.zero) hE wA ?_;rintro ⟨n6,s6_7,y8_l0⟩ hE K6 hK6;try dsimp only at hE
  cases n6 with
  | zero=>cases hE
  | succ n6 =>
    rw [Z85_l6] at hE;refine seqK fun K9 hK9=>?_;refine seqR (S Mv (S Mv ?_));refine sLen (f:=Z5.c) (s:=a0) (TK rfl) rfl rfl rfl rfl fun hL11=>?_;refine S BI (nil ?_);refine cE hE (fun hc12 hE=>?_) (fun hc12 hE=>?_)
    ·try dsimp only at hc12
     have hf12:=oD hc12;refine sk hK9 ?_;clear hK9 K9;refine seqK fun K13 hK13=>?_;refine block ?_;refine seqR (S Mv (S Mv ?_));obtain⟨x15,gx15,hE⟩:=bO hE;refine S (ix Z5.c s6_7 gx15) (S Fv (S Ld (S Mv (S BS (nil ?_)))));refine cE hE (fun hc16 hE=>?_) (fun hc16 hE=>?_)
     ·refine seqR (S Mv (S Mv ?_));obtain⟨x18,gx18,hE⟩:=bO hE;refine S (ix Z5.c s6_7 gx18) (S Ld ?_);refine Sf ?_;refine S As (nil ?_);exact rt hE
     refine sk hK13 ?_;clear hK13 K13;refine region ?_;refine S Mv ?_;refine SI ?_;refine S As (nil ?_);exact hK6 _ (n6,(s6_7+1),y8_l0) wA hE (nS _)
    refine AWp.exit ?_;exact hK2 _ y8_l0 wA hE
 rintro y3_l0 hE;try dsimp only at hE
 unfold Z85_j2 at hE;refine seqR (S BU ?_);refine Sf ?_;refine S As (nil ?_);exact rt hE
def Z87 (a0:TDoc) (a1:Bs):Option Bool:=(Z84 a0 a1).bind fun x3=>(Z88 a1).bind fun x5=>some (x5||(x3.2&&(decide (x3.1.FKind=(4:Int)))))
theorem Z87_walk {a0:TDoc}{a1:Bs}{r:Bool}(hE:Z87 a0 a1=some r) (H:Heap) :AC Tryz.prog 103 [.agg (TDoc.c a0),.d (.str a1)] H fun v h'=>v=.a (.d (.bool r))/\h'=H:=by
 unfold Z87 at hE;refine AC.oW 23 [.tmp 4] Tryz.call103 Tryz.func103 ?_;refine seqR (S BX (S As (nil ?_)));refine seqR (S Ld (S Mv ?_));obtain⟨x3,gx3,hE⟩:=bO hE;refine Sc rfl rfl (Z84_walk gx3) ?_;refine S Mv (S EX (S EX ?_));refine Sl ?_;refine Sf ?_;refine S As (nil ?_);refine freezeA 5 _ rfl (KA 1 (KA 6 Keeps.nil)) ?_;refine seqR (S Mv ?_);obtain⟨x5,gx5,hE⟩:=bO hE;refine Sc rfl rfl (Z88_walk gx5) ?_
 refine S Mv (G0 Mv ?_);refine G1 16 rfl Mv ?_;refine G0 Fv ?_;refine G1 18 rfl Ld ?_;refine G1 19 rfl BI ?_;refine gC rfl rfl (fun hC=>ungdA (k:=17) rfl (pickAndA rfl rfl rfl)) rfl ?_;refine S PO (S As (nil ?_));exact rt hE
def Z86 (a0:TDoc) (a1:Bs):Option Bool:=(Z84 a0 a1).bind fun x3=>(Z87 a0 a1).bind fun x5=>some (x5||(x3.2&&(decide (x3.1.FKind=(5:Int)))))
theorem Z86_walk {a0:TDoc}{a1:Bs}{r:Bool}(hE:Z86 a0 a1=some r) (H:Heap) :AC Tryz.prog 68 [.agg (TDoc.c a0),.d (.str a1)] H fun v h'=>v=.a (.d (.bool r))/\h'=H:=by
 unfold Z86 at hE;refine AC.oW 24 [.tmp 4] Tryz.call68 Tryz.func68 ?_;refine seqR (S BX (S As (nil ?_)));refine seqR (S Ld (S Mv ?_));obtain⟨x3,gx3,hE⟩:=bO hE;refine Sc rfl rfl (Z84_walk gx3) ?_;refine S Mv (S EX (S EX ?_));refine Sl ?_;refine Sf ?_;refine S As (nil ?_);refine freezeA 5 _ rfl (KA 1 (KA 2 (KA 6 Keeps.nil))) ?_;refine seqR (S Ld (S Mv ?_));obtain⟨x5,gx5,hE⟩:=bO hE;refine Sc rfl rfl (Z87_walk gx5) ?_
 refine S Mv (G0 Mv ?_);refine G1 17 rfl Mv ?_;refine G0 Fv ?_;refine G1 19 rfl Ld ?_;refine G1 20 rfl BI ?_;refine gC rfl rfl (fun hC=>ungdA (k:=18) rfl (pickAndA rfl rfl rfl)) rfl ?_;refine S PO (S As (nil ?_));exact rt hE
end Go.Proofs

namespace Go.Proofs
open Go Go.Ab
open AOps Cert AWp Keeps KeepsT
variable {lou:Lou}
def Z95_j3  (s9_4:(Sl Z3)):Option (Sl Z3):=some s9_4
def Z95_j14 (s10_9:Nat) (k_next_7:(Sl Z3)->Nat->Option (Sl Z3)) (s9_15:(Sl Z3)):Option (Sl Z3):=k_next_7 s9_15 (s10_9+1)
def Z95_l7 (a0:TDoc) (a1:(Sl Z5)) (a2:Bs) (a3:Bs) :Nat->(Sl Z3)->Nat->Option (Sl Z3)
 | 0,_,_=>none
 | n7+1,s9_8,s10_9=>bif (decide (((s10_9:Nat):Int)<((a1.l.length:Nat):Int))) then((a1.l[s10_9]?).bind fun x17=>(catC a2 x17.FName).bind fun x18=>(catC x18 a3).bind fun x19=>(partC a1 none (some ((s10_9:Nat):Int))).bind fun x21=>(a1.l[s10_9]?).bind fun x22=>(Z85 x21 x22.FName).bind fun x23=>(a1.l[s10_9]?).bind fun x25=>(Z98 x25.FName false x23.2 x19).bind fun x26=>(appC 24 s9_8 x26).bind fun x27=>(a1.l[s10_9]?).bind fun x29=>(Z96 a0 x29.FType.FName).bind fun x30=>bif (!x30) then((appC 24 x27 (⟨false,[(Z3.mk (8:Int) x19)]⟩:Sl Z3)).bind fun x32=>Z95_j14 s10_9 ((Z95_l7 a0 a1 a2 a3 n7)) x32) else((a1.l[s10_9]?).bind fun x34=>(Z86 a0 x34.FType.FName).bind fun x35=>bif (!x35) then((appC 24 x27 (⟨false,[(Z3.mk (10:Int) x19)]⟩:Sl Z3)).bind fun x37=>Z95_j14 s10_9 ((Z95_l7 a0 a1 a2 a3 n7)) x37) else(Z95_j14 s10_9 ((Z95_l7 a0 a1 a2 a3 n7)) x27))) else(Z95_j3   s9_8)
def Z95 (a0:TDoc) (a1:(Sl Z5)) (a2:Bs) (a3:Bs):Option (Sl Z3):=Z95_l7 a0 a1 a2 a3 (a1.l.length+1) (Sl.nil:Sl Z3) 0
theorem Z95_walk {a0:TDoc}{a1:Sl Z5}{a2 a3:Bs}{w1:Option Nat}{r:Sl Z3}(hE:Z95 a0 a1 a2 a3=some r) (H:Heap) :AC Tryz.prog 34 [.agg (TDoc.c a0),.d (Sl.d 10 Z5.c w1 a1),.d (.str a2),.d (.str a3)] H fun v h'=>v=.a (.d (Sl.d 2 Z3.c none r))/\h'=H:=by
 unfold Z95 at hE;refine AC.oW 80 [.tmp 8] Tryz.call34 Tryz.func34 ?_;refine AWp.tok 2 fun tk1 htk1=>?_;refine seqR (S BX ?_);refine s0 (assignNil (k':=2) rfl) rfl ?_;refine nil ?_;refine seqR (S As (nil ?_));refine AWp.nilTok 9 2 tk1 rfl hpG ?_;refine seqJH kN (fun(z:(Sl Z3))=>[(9,.a (.d (Sl.d 2 Z3.c (some tk1) z)))]) (fun z=>(H.set tk1 (some (.tok 2 z.l.length)))) (fun z=>Z95_j3 z=some r) ?_ ?_
 ·intro K3 hK3;refine seqR (S As (nil ?_));refine block ?_;refine loopH (TA 1 (TA 2 (TA 3 (TA 4 kN)))) (fun(z:Nat×(Sl Z3)×Nat)=>[(9,.a (.d (Sl.d 2 Z3.c (some tk1) z.2.1))),(10,.a (.d (.int .i64 ((z.2.2:Nat):Int))))]) (fun z=>(H.set tk1 (some (.tok 2 z.2.1.l.length)))) (fun z=>z.1) (fun z=>Z95_l7 a0 a1 a2 a3 z.1 z.2.1 z.2.2=some r) ((a1.l.length+1),(Sl.nil:Sl Z3),0) hE wA ?_;rintro ⟨n7,s9_8,s10_9⟩ hE K7 hK7
  try dsimp only at hE
  cases n7 with
  | zero=>cases hE
  | succ n7 =>
    rw [Z95_l7] at hE;refine seqK fun K10 hK10=>?_;refine seqR (S Mv (S Mv ?_));refine sLen (f:=Z5.c) (s:=a1) (TK rfl) rfl rfl rfl rfl fun hL12=>?_;refine S BI (nil ?_);refine cE hE (fun hc13 hE=>?_) (fun hc13 hE=>?_)
    ·try dsimp only at hc13
     have hf13:=oD hc13;refine sk hK10 ?_;clear hK10 K10;refine seqJH (TA 1 (TA 2 (TA 3 (TA 4 (TA 10 kN))))) (fun(z:(Sl Z3))=>[(9,.a (.d (Sl.d 2 Z3.c (some tk1) z)))]) (fun z=>(H.set tk1 (some (.tok 2 z.l.length)))) (fun z=>Z95_j14 s10_9 ((Z95_l7 a0 a1 a2 a3 n7)) z=some r) ?_ ?_
     ·intro K14 hK14;refine block ?_;refine seqR (S Mv (S Mv (S Mv ?_)));obtain⟨x17,gx17,hE⟩:=bO hE;refine S (ix Z5.c s10_9 gx17) (S Fv (S Ld ?_));obtain⟨x18,gx18,hE⟩:=bO hE;refine s0 (catM rfl rfl gx18) rfl ?_;refine S Mv ?_;obtain⟨x19,gx19,hE⟩:=bO hE;refine s0 (catM rfl rfl gx19) rfl ?_;refine S As (nil ?_);refine AWp.seqD (Sd Mv (Sd Mv ?_));obtain⟨x21,gx21,hE⟩:=bO hE;refine DOps.s0 (partM (f:=Z5.c) (l:=none) (r:=(some ((s10_9:Nat):Int))) (TK rfl) rfl (TK rfl) rfl rfl trivial rfl gx21) rfl ?_
      refine Sd Mv (Sd Mv ?_);obtain⟨x22,gx22,hE⟩:=bO hE;refine Sd (ix Z5.c s10_9 gx22) (Sd Fv (Sd Ld ?_));obtain⟨x23,gx23,hE⟩:=bO hE;refine Scd rfl rfl (Z85_walk gx23) ?_;refine Sd Mv (Sd EX (Sd EX ?_));refine DOps.sB (TK rfl) rfl rfl ?_ (by repeat (first|exact Snoc.nil|apply Snoc.cons));refine DOps.sLn (storeLFA (TK rfl) rfl rfl rfl rfl rfl) ?_;refine Sd As ?_;refine DOps.nil (by decide +kernel) ?_
      refine freezeA 12 _ rfl (KA 1 (KA 2 (KA 3 (KA 4 (KA 9 (KA 10 (KA 11 (KA 13 Keeps.nil)))))))) ?_;refine seqR (S Mv (S Mv (S Mv ?_)));obtain⟨x25,gx25,hE⟩:=bO hE;refine S (ix Z5.c s10_9 gx25) (S Fv (S Ld (S Mv (S Mv ?_))));obtain⟨x26,gx26,hE⟩:=bO hE;refine Sc rfl rfl (Z98_walk gx26) ?_;obtain⟨x27,gx27,hE⟩:=bO hE;refine SH (am Z3.c (TK rfl) rfl (TK rfl) (TK rfl) gx27) ?_;refine hq (H.set tk1 (some (.tok 2 x27.l.length))) ?_
      refine S As (nil ?_);refine AWp.seqD (Sd Ld (Sd Mv (Sd Mv ?_)));obtain⟨x29,gx29,hE⟩:=bO hE;refine Sd (ix Z5.c s10_9 gx29) (Sd Fv (Sd Fv (Sd Ld ?_)));obtain⟨x30,gx30,hE⟩:=bO hE;refine Scd rfl rfl (Z96_walk gx30) ?_;refine Sd NB ?_;refine DOps.nil (by decide +kernel) ?_;refine cE hE (fun hc31 hE=>?_) (fun hc31 hE=>?_)
      ·refine region ?_;refine S Mv (S Mv (S BU (S BV ?_)));obtain⟨x32,gx32,hE⟩:=bO hE;refine SH (am Z3.c (TK rfl) rfl (TK rfl) (TK rfl) gx32) ?_;refine hq (H.set tk1 (some (.tok 2 x32.l.length))) ?_;refine S As (nil ?_);exact hK14 _ x32 wA hE
      refine AWp.seqD (Sd Ld (Sd Mv (Sd Mv ?_)));obtain⟨x34,gx34,hE⟩:=bO hE;refine Sd (ix Z5.c s10_9 gx34) (Sd Fv (Sd Fv (Sd Ld ?_)));obtain⟨x35,gx35,hE⟩:=bO hE;refine Scd rfl rfl (Z86_walk gx35) ?_;refine Sd NB ?_;refine DOps.nil (by decide +kernel) ?_;refine cE hE (fun hc36 hE=>?_) (fun hc36 hE=>?_)
      ·refine region ?_;refine S Mv (S Mv (S BU (S BV ?_)));obtain⟨x37,gx37,hE⟩:=bO hE;refine SH (am Z3.c (TK rfl) rfl (TK rfl) (TK rfl) gx37) ?_;refine hq (H.set tk1 (some (.tok 2 x37.l.length))) ?_;refine S As (nil ?_);exact hK14 _ x37 wA hE
      refine AWp.skip ?_;exact hK14 _ x27 wA hE
     rintro s9_15 hE;try dsimp only at hE
     unfold Z95_j14 at hE;refine region ?_;refine S Mv ?_;refine SI ?_;refine S As (nil ?_);exact hK7 _ (n7,s9_15,(s10_9+1)) wA hE (nS _)
    refine AWp.exit ?_;exact hK3 _ s9_8 wA hE
 rintro s9_4 hE;try dsimp only at hE
 unfold Z95_j3 at hE;refine seqR (S Mv (S As (nil ?_)));refine AWp.dropTok 8 rfl ?_;refine AWp.ret ?_;repeat (first|refine xBlock_ret ?_|refine xThen_ret ?_)
 obtain rfl:=oJ hE;refine retQ.retF H rfl ⟨rfl,rfl⟩ ?_
 first|exact Heap.sub_set htk1|(simp only [Heap.set_set]; exact Heap.sub_set htk1)
def Z83_j2  (y3_l0:Z4):Option (Z4×Bool):=some ((Z4.mk ([]:Bs) (Sl.nil:Sl Z5) TRef.zero (Sl.nil:Sl TDir)),false)
def Z83_l6 (a0:TDef) (a1:Bs) :Nat->Nat->Z4->Option (Z4×Bool)
 | 0,_,_=>none
 | n6+1,s6_7,y8_l0=>bif (decide (((s6_7:Nat):Int)<((a0.FFields.l.length:Nat):Int))) then((a0.FFields.l[s6_7]?).bind fun x15=>bif ((x15.FName==a1)) then((a0.FFields.l[s6_7]?).bind fun x18=>some (x18,true)) else((Z83_l6 a0 a1 n6) (s6_7+1) y8_l0)) else(Z83_j2   y8_l0)
def Z83 (a0:TDef) (a1:Bs):Option (Z4×Bool):=Z83_l6 a0 a1 (a0.FFields.l.length+1) 0 Z4.zero
theorem Z83_walk {a0:TDef}{a1:Bs}{r:Z4×Bool}(hE:Z83 a0 a1=some r) (H:Heap) :AC Tryz.prog 65 [.agg (TDef.c a0),.d (.str a1)] H fun v h'=>v=.tup [.agg (Z4.c r.1),.d (.bool r.2)]/\h'=H:=by
 unfold Z83 at hE;refine AC.oW 28 [.cell 4 57,.tmp 5] Tryz.call65 Tryz.func65 ?_;refine seqR (S BX ?_);refine Sl ?_;refine S As (nil ?_);refine seqJ (TA 4 kN) (fun(z:Z4)=>[]) (fun z=>[Z4.c z]) (fun z=>H) (fun z=>Z83_j2 z=some r) ?_ ?_
 ·intro K2 hK2;refine seqR (S As (nil ?_));refine block ?_;refine loopO (TA 1 (TA 2 (TA 4 kN))) (fun(z:Nat×Nat×Z4)=>[(6,.a (.d (.int .i64 ((z.2.1:Nat):Int))))]) (fun z=>[Z4.c z.2.2]) (fun z=>H) (fun z=>z.1) (fun z=>Z83_l6 a0 a1 z.1 z.2.1 z.2.2=some r) ((a0.FFields.l.length+1),0,Z4.zero) hE wA ?_;rintro ⟨n6,s6_7,y8_l0⟩ hE K6 hK6;try dsimp only at hE
  cases n6 with
  | zero=>cases hE
  | succ n6 =>
    rw [Z83_l6] at hE;refine seqK fun K9 hK9=>?_;refine seqR (S Mv (S Fv (S Ld ?_)));refine sLen (f:=Z4.c) (s:=a0.FFields) (TK rfl) rfl rfl rfl rfl fun hL11=>?_;refine S BI (nil ?_);refine cE hE (fun hc12 hE=>?_) (fun hc12 hE=>?_)
    ·try dsimp only at hc12
     have hf12:=oD hc12;refine sk hK9 ?_;clear hK9 K9;refine seqK fun K13 hK13=>?_;refine block ?_;refine seqR (S Fv (S Ld (S Mv ?_)));obtain⟨x15,gx15,hE⟩:=bO hE;refine S (ix Z4.c s6_7 gx15) (S Fv (S Ld (S Mv (S BS (nil ?_)))));refine cE hE (fun hc16 hE=>?_) (fun hc16 hE=>?_)
     ·refine seqR (S Fv (S Ld (S Mv ?_)));obtain⟨x18,gx18,hE⟩:=bO hE;refine S (ix Z4.c s6_7 gx18) (S Ld ?_);refine Sf ?_;refine S As (nil ?_);exact rt hE
     refine sk hK13 ?_;clear hK13 K13;refine region ?_;refine S Mv ?_;refine SI ?_;refine S As (nil ?_);exact hK6 _ (n6,(s6_7+1),y8_l0) wA hE (nS _)
    refine AWp.exit ?_;exact hK2 _ y8_l0 wA hE
 rintro y3_l0 hE;try dsimp only at hE
 unfold Z83_j2 at hE;refine seqR (S BU ?_);refine Sf ?_;refine S As (nil ?_);exact rt hE
def Z93_j3  (s5_4:(Sl Z3)):Option (Sl Z3):=some s5_4
def Z93_j14 (s6_9:Nat) (k_next_7:(Sl Z3)->Nat->Option (Sl Z3)) (s5_15:(Sl Z3)):Option (Sl Z3):=k_next_7 s5_15 (s6_9+1)
def Z93_j29 (a0:TDoc) (s6_9:Nat) (x17:Z4) (x20:Bs) (k_next_7:(Sl Z3)->Nat->Option (Sl Z3)) (s5_30:(Sl Z3)):Option (Sl Z3):=(catC x20 ([40]:Bs)).bind fun x31=>(Z95 a0 x17.FArgs x31 ([41]:Bs)).bind fun x32=>(appC 24 s5_30 x32).bind fun x33=>Z93_j14 s6_9 k_next_7 x33
def Z93_l7 (a0:TDoc) (a1:TDef) :Nat->(Sl Z3)->Nat->Option (Sl Z3)
 | 0,_,_=>none
 | n7+1,s5_8,s6_9=>bif (decide (((s6_9:Nat):Int)<((a1.FFields.l.length:Nat):Int))) then((a1.FFields.l[s6_9]?).bind fun x17=>(catC a1.FName ([46]:Bs)).bind fun x19=>(catC x19 x17.FName).bind fun x20=>(partC a1.FFields none (some ((s6_9:Nat):Int))).bind fun x22=>(Z83 (TDef.mk (0:Int) ([]:Bs) (Sl.nil:Sl Bs) (Sl.nil:Sl TDir) x22 (Sl.nil:Sl Z6) (Sl.nil:Sl Z5)) x17.FName).bind fun x23=>(Z98 x17.FName false x23.2 x20).bind fun x25=>(appC 24 s5_8 x25).bind fun x26=>(Z84 a0 x17.FType.FName).bind fun x28=>(Z96 a0 x17.FType.FName).bind fun x35=>bif (!x35) then((appC 24 x26 (⟨false,[(Z3.mk (8:Int) x20)]⟩:Sl Z3)).bind fun x37=>Z93_j29 a0 s6_9 x17 x20 ((Z93_l7 a0 a1 n7)) x37) else((Z88 x17.FType.FName).bind fun x39=>bif (((!x39)&&x28.2)&&(decide (x28.1.FKind=(5:Int)))) then((appC 24 x26 (⟨false,[(Z3.mk (10:Int) x20)]⟩:Sl Z3)).bind fun x41=>Z93_j29 a0 s6_9 x17 x20 ((Z93_l7 a0 a1 n7)) x41) else(Z93_j29 a0 s6_9 x17 x20 ((Z93_l7 a0 a1 n7)) x26))) else(Z93_j3   s5_8)
def Z93 (a0:TDoc) (a1:TDef):Option (Sl Z3):=Z93_l7 a0 a1 (a1.FFields.l.length+1) (Sl.nil:Sl Z3) 0
theorem Z93_walk {a0:TDoc}{a1:TDef}{r:Sl Z3}(hE:Z93 a0 a1=some r) (H:Heap) :AC Tryz.prog 32 [.agg (TDoc.c a0),.agg (TDef.c a1)] H fun v h'=>v=.a (.d (Sl.d 2 Z3.c none r))/\h'=H:=by
 unfold Z93 at hE;refine AC.oW 95 [.tmp 4] Tryz.call32 Tryz.func32 ?_;refine AWp.tok 2 fun tk1 htk1=>?_;refine seqR (S BX (S BX ?_));refine s0 (assignNil (k':=2) rfl) rfl ?_;refine nil ?_;refine seqR (S As (nil ?_));refine AWp.nilTok 5 2 tk1 rfl hpG ?_;refine seqJH kN (fun(z:(Sl Z3))=>[(5,.a (.d (Sl.d 2 Z3.c (some tk1) z)))]) (fun z=>(H.set tk1 (some (.tok 2 z.l.length)))) (fun z=>Z93_j3 z=some r) ?_ ?_
 ·intro K3 hK3;refine seqR (S As (nil ?_));refine block ?_;refine loopH (TA 2 (TA 3 kN)) (fun(z:Nat×(Sl Z3)×Nat)=>[(5,.a (.d (Sl.d 2 Z3.c (some tk1) z.2.1))),(6,.a (.d (.int .i64 ((z.2.2:Nat):Int))))]) (fun z=>(H.set tk1 (some (.tok 2 z.2.1.l.length)))) (fun z=>z.1) (fun z=>Z93_l7 a0 a1 z.1 z.2.1 z.2.2=some r) ((a1.FFields.l.length+1),(Sl.nil:Sl Z3),0) hE wA ?_;rintro ⟨n7,s5_8,s6_9⟩ hE K7 hK7
  try dsimp only at hE
  cases n7 with
  | zero=>cases hE
  | succ n7 =>
    rw [Z93_l7] at hE;refine seqK fun K10 hK10=>?_;refine seqR (S Mv (S Fv (S Ld ?_)));refine sLen (f:=Z4.c) (s:=a1.FFields) (TK rfl) rfl rfl rfl rfl fun hL12=>?_;refine S BI (nil ?_);refine cE hE (fun hc13 hE=>?_) (fun hc13 hE=>?_)
    ·try dsimp only at hc13
     have hf13:=oD hc13;refine sk hK10 ?_;clear hK10 K10;refine seqJH (TA 2 (TA 3 (TA 6 kN))) (fun(z:(Sl Z3))=>[(5,.a (.d (Sl.d 2 Z3.c (some tk1) z)))]) (fun z=>(H.set tk1 (some (.tok 2 z.l.length)))) (fun z=>Z93_j14 s6_9 ((Z93_l7 a0 a1 n7)) z=some r) ?_ ?_
     ·intro K14 hK14;refine block ?_;refine seqR (S Fv (S Ld (S Mv ?_)));obtain⟨x17,gx17,hE⟩:=bO hE;refine S (ix Z4.c s6_9 gx17) (S Ld ?_);refine Sl ?_;refine Sf ?_;refine nil ?_;refine freezeA 7 _ rfl (KA 2 (KA 3 (KA 5 (KA 6 Keeps.nil)))) ?_;refine seqR (S Fv (S Ld ?_));obtain⟨x19,gx19,hE⟩:=bO hE;refine s0 (catM rfl rfl gx19) rfl ?_;refine S Fv (S Ld ?_);obtain⟨x20,gx20,hE⟩:=bO hE;refine s0 (catM rfl rfl gx20) rfl ?_
      refine S As (nil ?_);refine AWp.seqD (Sd Fv (Sd Ld (Sd Mv ?_)));obtain⟨x22,gx22,hE⟩:=bO hE;refine DOps.s0 (partM (f:=Z4.c) (l:=none) (r:=(some ((s6_9:Nat):Int))) (TK rfl) rfl (TK rfl) rfl rfl trivial rfl gx22) rfl ?_;refine Sd BU (Sd Fv (Sd Ld ?_));obtain⟨x23,gx23,hE⟩:=bO hE;refine Scd rfl rfl (Z83_walk gx23) ?_;refine Sd Mv (Sd EX (Sd EX ?_));refine DOps.sB (TK rfl) rfl rfl ?_ (by repeat (first|exact Snoc.nil|apply Snoc.cons))
      refine DOps.sLn (storeLFA (TK rfl) rfl rfl rfl rfl rfl) ?_;refine Sd As ?_;refine DOps.nil (by decide +kernel) ?_;refine freezeA 9 _ rfl (KA 2 (KA 3 (KA 5 (KA 6 (KA 7 (KA 8 (KA 10 Keeps.nil))))))) ?_;refine seqR (S Mv (S Fv (S Ld (S Mv (S Mv ?_)))));obtain⟨x25,gx25,hE⟩:=bO hE;refine Sc rfl rfl (Z98_walk gx25) ?_;obtain⟨x26,gx26,hE⟩:=bO hE;refine SH (am Z3.c (TK rfl) rfl (TK rfl) (TK rfl) gx26) ?_
      refine hq (H.set tk1 (some (.tok 2 x26.l.length))) ?_;refine S As (nil ?_);refine seqR (S Ld (S Fv (S Fv (S Ld ?_))));obtain⟨x28,gx28,hE⟩:=bO hE;refine Sc rfl rfl (Z84_walk gx28) ?_;refine S Mv (S EX (S EX ?_));refine Sl ?_;refine Sf ?_;refine S As (nil ?_);refine freezeA 11 _ rfl (KA 2 (KA 3 (KA 5 (KA 6 (KA 7 (KA 8 (KA 12 Keeps.nil))))))) ?_;refine seqJH (TA 2 (TA 3 (TA 6 (TA 7 (TA 8 kN))))) (fun(z:(Sl Z3))=>[(5,.a (.d (Sl.d 2 Z3.c (some tk1) z)))]) (fun z=>(H.set tk1 (some (.tok 2 z.l.length)))) (fun z=>Z93_j29 a0 s6_9 x17 x20 ((Z93_l7 a0 a1 n7)) z=some r) ?_ ?_
      ·intro K29 hK29;refine seqR (S Ld (S Fv (S Fv (S Ld ?_))));obtain⟨x35,gx35,hE⟩:=bO hE;refine Sc rfl rfl (Z96_walk gx35) ?_;refine S NB (nil ?_);refine cE hE (fun hc36 hE=>?_) (fun hc36 hE=>?_)
       ·refine region ?_;refine S Mv (S Mv (S BU (S BV ?_)));obtain⟨x37,gx37,hE⟩:=bO hE;refine SH (am Z3.c (TK rfl) rfl (TK rfl) (TK rfl) gx37) ?_;refine hq (H.set tk1 (some (.tok 2 x37.l.length))) ?_;refine S As (nil ?_);exact hK29 _ x37 wA hE
       refine seqR (S Fv (S Fv (S Ld ?_)));obtain⟨x39,gx39,hE⟩:=bO hE;refine Sc rfl rfl (Z88_walk gx39) ?_;refine S NB (S Mv (G0 Mv (S PA (S Mv (G0 Fv ?_)))));refine G1 77 rfl Ld ?_;refine G1 78 rfl BI ?_;refine S PA (nil ?_);refine cE hE (fun hc40 hE=>?_) (fun hc40 hE=>?_)
       ·refine region ?_;refine S Mv (S Mv (S BU (S BV ?_)));obtain⟨x41,gx41,hE⟩:=bO hE;refine SH (am Z3.c (TK rfl) rfl (TK rfl) (TK rfl) gx41) ?_;refine hq (H.set tk1 (some (.tok 2 x41.l.length))) ?_;refine S As (nil ?_);exact hK29 _ x41 wA hE
       refine AWp.skip ?_;exact hK29 _ x26 wA hE
      rintro s5_30 hE;try dsimp only at hE
      unfold Z93_j29 at hE;refine region ?_;refine S Mv (S Ld (S Fv (S Ld (S Mv ?_))));obtain⟨x31,gx31,hE⟩:=bO hE;refine s0 (catM rfl rfl gx31) rfl ?_;obtain⟨x32,gx32,hE⟩:=bO hE;refine Sc rfl rfl (Z95_walk gx32) ?_;obtain⟨x33,gx33,hE⟩:=bO hE;refine SH (am Z3.c (TK rfl) rfl (TK rfl) (TK rfl) gx33) ?_;refine hq (H.set tk1 (some (.tok 2 x33.l.length))) ?_;refine S As (nil ?_);exact hK14 _ x33 wA hE
     rintro s5_15 hE;try dsimp only at hE
     unfold Z93_j14 at hE;refine region ?_;refine S Mv ?_;refine SI ?_;refine S As (nil ?_);exact hK7 _ (n7,s5_15,(s6_9+1)) wA hE (nS _)
    refine AWp.exit ?_;exact hK3 _ s5_8 wA hE
 rintro s5_4 hE;try dsimp only at hE
 unfold Z93_j3 at hE;refine seqR (S Mv (S As (nil ?_)));refine AWp.dropTok 4 rfl ?_;refine AWp.ret ?_;repeat (first|refine xBlock_ret ?_|refine xThen_ret ?_)
 obtain rfl:=oJ hE;refine retQ.retF H rfl ⟨rfl,rfl⟩ ?_
 first|exact Heap.sub_set htk1|(simp only [Heap.set_set]; exact Heap.sub_set htk1)
def Z97_j3  (s3_4:(Sl Z3)):Option (Sl Z3):=some s3_4
def Z97_j14 (s4_9:Nat) (k_next_7:(Sl Z3)->Nat->Option (Sl Z3)) (s3_15:(Sl Z3)):Option (Sl Z3):=k_next_7 s3_15 (s4_9+1)
def Z97_j19 (a0:TDef) (s3_8:(Sl Z3)) (s4_9:Nat) (x17:Z6) (k_next_7:(Sl Z3)->Nat->Option (Sl Z3)) (s6_20:Bool):Option (Sl Z3):=(catC a0.FName ([46]:Bs)).bind fun x21=>(catC x21 x17.FName).bind fun x22=>(Z98 x17.FName ((((x17.FName==([116,114,117,101]:Bs)))||((x17.FName==([102,97,108,115,101]:Bs))))||((x17.FName==([110,117,108,108]:Bs)))) s6_20 x22).bind fun x23=>(appC 24 s3_8 x23).bind fun x24=>Z97_j14 s4_9 k_next_7 x24
def Z97_l26 (a0:TDef) (s3_8:(Sl Z3)) (s4_9:Nat) (x17:Z6) (k_next_7:(Sl Z3)->Nat->Option (Sl Z3)):Nat->Bool->Nat->Option (Sl Z3)
 | 0,_,_=>none
 | n26+1,s6_27,s7_28=>bif (decide (((s7_28:Nat):Int)<((s4_9:Nat):Int))) then(guardO (!s6_27) (a0.FMembers.l[s7_28]?) Z6.zero fun x33=>(Z97_l26 a0 s3_8 s4_9 x17 k_next_7 n26) (s6_27||((x33.FName==x17.FName))) (s7_28+1)) else(Z97_j19 a0 s3_8 s4_9 x17 k_next_7 s6_27)
def Z97_l7 (a0:TDef) :Nat->(Sl Z3)->Nat->Option (Sl Z3)
 | 0,_,_=>none
 | n7+1,s3_8,s4_9=>bif (decide (((s4_9:Nat):Int)<((a0.FMembers.l.length:Nat):Int))) then((a0.FMembers.l[s4_9]?).bind fun x17=>Z97_l26 a0 s3_8 s4_9 x17 ((Z97_l7 a0 n7)) (s4_9+1) false 0) else(Z97_j3   s3_8)
def Z97 (a0:TDef):Option (Sl Z3):=Z97_l7 a0 (a0.FMembers.l.length+1) (Sl.nil:Sl Z3) 0
theorem Z97_walk {a0:TDef}{r:Sl Z3}(hE:Z97 a0=some r) (H:Heap) :AC Tryz.prog 33 [.agg (TDef.c a0)] H fun v h'=>v=.a (.d (Sl.d 2 Z3.c none r))/\h'=H:=by
 unfold Z97 at hE;refine AC.oW 58 [.tmp 2] Tryz.call33 Tryz.func33 ?_;refine AWp.tok 2 fun tk1 htk1=>?_;refine seqR (S BX ?_);refine s0 (assignNil (k':=2) rfl) rfl ?_;refine nil ?_;refine seqR (S As (nil ?_));refine AWp.nilTok 3 2 tk1 rfl hpG ?_;refine seqJH kN (fun(z:(Sl Z3))=>[(3,.a (.d (Sl.d 2 Z3.c (some tk1) z)))]) (fun z=>(H.set tk1 (some (.tok 2 z.l.length)))) (fun z=>Z97_j3 z=some r) ?_ ?_
 ·intro K3 hK3;refine seqR (S As (nil ?_));refine block ?_;refine loopH (TA 1 kN) (fun(z:Nat×(Sl Z3)×Nat)=>[(3,.a (.d (Sl.d 2 Z3.c (some tk1) z.2.1))),(4,.a (.d (.int .i64 ((z.2.2:Nat):Int))))]) (fun z=>(H.set tk1 (some (.tok 2 z.2.1.l.length)))) (fun z=>z.1) (fun z=>Z97_l7 a0 z.1 z.2.1 z.2.2=some r) ((a0.FMembers.l.length+1),(Sl.nil:Sl Z3),0) hE wA ?_;rintro ⟨n7,s3_8,s4_9⟩ hE K7 hK7
  try dsimp only at hE
  cases n7 with
  | zero=>cases hE
  | succ n7 =>
    rw [Z97_l7] at hE;refine seqK fun K10 hK10=>?_;refine seqR (S Mv (S Fv (S Ld ?_)));refine sLen (f:=Z6.c) (s:=a0.FMembers) (TK rfl) rfl rfl rfl rfl fun hL12=>?_;refine S BI (nil ?_);refine cE hE (fun hc13 hE=>?_) (fun hc13 hE=>?_)
    ·try dsimp only at hc13
     have hf13:=oD hc13;refine sk hK10 ?_;clear hK10 K10;refine seqJH (TA 1 (TA 4 kN)) (fun(z:(Sl Z3))=>[(3,.a (.d (Sl.d 2 Z3.c (some tk1) z)))]) (fun z=>(H.set tk1 (some (.tok 2 z.l.length)))) (fun z=>Z97_j14 s4_9 ((Z97_l7 a0 n7)) z=some r) ?_ ?_
     ·intro K14 hK14;refine block ?_;refine seqR (S Fv (S Ld (S Mv ?_)));obtain⟨x17,gx17,hE⟩:=bO hE;refine S (ix Z6.c s4_9 gx17) (S Fv (S Ld (S As (nil ?_))));refine seqR (S As (nil ?_));refine seqJH (TA 1 (TA 3 (TA 4 (TA 5 kN)))) (fun(z:Bool)=>[(6,.a (.d (.bool z)))]) (fun z=>(H.set tk1 (some (.tok 2 s3_8.l.length)))) (fun z=>Z97_j19 a0 s3_8 s4_9 x17 ((Z97_l7 a0 n7)) z=some r) ?_ ?_
      ·intro K19 hK19;refine seqR (S As (nil ?_));refine block ?_;refine loopH (TA 1 (TA 3 (TA 4 (TA 5 kN)))) (fun(z:Nat×Bool×Nat)=>[(6,.a (.d (.bool z.2.1))),(7,.a (.d (.int .i64 ((z.2.2:Nat):Int))))]) (fun z=>(H.set tk1 (some (.tok 2 s3_8.l.length)))) (fun z=>z.1) (fun z=>Z97_l26 a0 s3_8 s4_9 x17 ((Z97_l7 a0 n7)) z.1 z.2.1 z.2.2=some r) ((s4_9+1),false,0) hE wA ?_;rintro ⟨n26,s6_27,s7_28⟩ hE K26 hK26
       try dsimp only at hE
       cases n26 with
       | zero=>cases hE
       | succ n26 =>
         rw [Z97_l26] at hE;refine seqK fun K29 hK29=>?_;refine seqR (S Mv (S Mv (S BI (nil ?_))));refine cE hE (fun hc31 hE=>?_) (fun hc31 hE=>?_)
         ·try dsimp only at hc31
          have hf31:=oD hc31;refine sk hK29 ?_;clear hK29 K29;refine seqK fun K32 hK32=>?_;refine block ?_;refine region ?_;refine S Mv (S Mv (G0 Fv ?_));refine G1 28 rfl Ld ?_;refine G0 Mv ?_;obtain⟨x33,gx33,hE⟩:=gO hE;refine gC rfl rfl (fun hC=>ungdA (k:=29) rfl (ungdA (k:=30) rfl (idxMn (f:=Z6.c) (n:=s7_28) (TK rfl) rfl (TK rfl) rfl rfl rfl (gx33 hC)))) rfl ?_;refine G1 31 rfl Fv ?_
          refine G1 32 rfl Ld ?_;refine G0 Mv ?_;refine G2 33 34 rfl rfl BS ?_;refine S PO (S As (nil ?_));refine hK32 _ ?_;clear hK32 K32;refine region ?_;refine S Mv ?_;refine SI ?_;refine S As (nil ?_);exact hK26 _ (n26,(s6_27||((x33.FName==x17.FName))),(s7_28+1)) wA hE (nS _)
         refine AWp.exit ?_;exact hK19 _ s6_27 wA hE
      rintro s6_20 hE;try dsimp only at hE
      unfold Z97_j19 at hE;refine region ?_;refine S Mv (S Mv (S Mv (S BS (S Mv (G0 Mv ?_)))));refine G1 42 rfl BS ?_;refine S PO (S Mv (G0 Mv ?_));refine G1 46 rfl BS ?_;refine S PO (S Mv (S Fv (S Ld ?_)));obtain⟨x21,gx21,hE⟩:=bO hE;refine s0 (catM rfl rfl gx21) rfl ?_;refine S Mv ?_;obtain⟨x22,gx22,hE⟩:=bO hE;refine s0 (catM rfl rfl gx22) rfl ?_;obtain⟨x23,gx23,hE⟩:=bO hE;refine Sc rfl rfl (Z98_walk gx23) ?_
      obtain⟨x24,gx24,hE⟩:=bO hE;refine SH (am Z3.c (TK rfl) rfl (TK rfl) (TK rfl) gx24) ?_;refine hq (H.set tk1 (some (.tok 2 x24.l.length))) ?_;refine S As (nil ?_);exact hK14 _ x24 wA hE
     rintro s3_15 hE;try dsimp only at hE
     unfold Z97_j14 at hE;refine region ?_;refine S Mv ?_;refine SI ?_;refine S As (nil ?_);exact hK7 _ (n7,s3_15,(s4_9+1)) wA hE (nS _)
    refine AWp.exit ?_;exact hK3 _ s3_8 wA hE
 rintro s3_4 hE;try dsimp only at hE
 unfold Z97_j3 at hE;refine seqR (S Mv (S As (nil ?_)));refine AWp.dropTok 2 rfl ?_;refine AWp.ret ?_;repeat (first|refine xBlock_ret ?_|refine xThen_ret ?_)
 obtain rfl:=oJ hE;refine retQ.retF H rfl ⟨rfl,rfl⟩ ?_
 first|exact Heap.sub_set htk1|(simp only [Heap.set_set]; exact Heap.sub_set htk1)
end Go.Proofs
