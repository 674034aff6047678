import Derived.Test.YtimiconoebjfbaaGreatDoorV1
set_option maxRecDepth 100000
set_option maxHeartbeats 2000000
set_option linter.unusedVariables false
set_option linter.unusedSimpArgs false
namespace Go.Proofs
open Go Go.Ab
open AOps Cert AWp Keeps KeepsT
variable {lou:Lou}
def Z48 (a0:Bs):Option Bool:=(Z25 a0).bind fun x3=>some (x3&&(!(a0==([111,110]:Bs))))
theorem Z48_walk {a0:Bs}{r:Bool}(hE:Z48 a0=some r) (H:Heap) :ACalls Tryz.prog 31 [.d (.str a0)] H fun v h'=>v=.a (.d (.bool r))/\h'=H:=by
 unfold Z48 at hE;refine ACalls.oW 9 [.tmp 2] Tryz.call31 Tryz.func31 ?_;refine seqR (S As (nil ?_));refine seqR (S Mv ?_);obtain⟨x3,gx3,hE⟩:=bO hE;refine Sc rfl rfl (Z25_walk gx3) ?_;refine S Mv (G0 Mv ?_);refine G1 6 rfl BS ?_;refine S PA (S As (nil ?_));exact rt hE
def Z44_j2 (a0:(Sl TArg))  :Option Bool:=some (decide (((a0.l.length:Nat):Int)<=(16:Int)))
def Z44_l6 (a0:(Sl TArg)) :Nat->Nat->Option Bool
 | 0,_=>none
 | n6+1,s3_7=>bif (decide (((s3_7:Nat):Int)<((a0.l.length:Nat):Int))) then((a0.l[s3_7]?).bind fun x14=>(Z25 x14.FName).bind fun x15=>guardO (!(!x15)) (a0.l[s3_7]?) TArg.zero fun x16=>guardO (!(!x15)) (Z30 x16.FValue) false fun x17=>bif ((!x15)||(!x17)) then(some false) else((Z44_l6 a0 n6) (s3_7+1))) else(Z44_j2 a0  )
def Z44 (a0:(Sl TArg)):Option Bool:=Z44_l6 a0 (a0.l.length+1) 0
theorem Z44_walk {a0:Sl TArg}{w0:Option Nat}{r:Bool}(hE:Z44 a0=some r) (H:Heap) :ACalls Tryz.prog 103 [.d (Sl.d 6 TArg.c w0 a0)] H fun v h'=>v=.a (.d (.bool r))/\h'=H:=by
 unfold Z44 at hE;refine ACalls.oW 29 [.tmp 2] Tryz.call103 Tryz.func103 ?_;refine seqR (S As (nil ?_));refine seqJH (TA 0 KeepsT.nil) (fun(z:Unit)=>[]) (fun z=>H) (fun z=>Z44_j2 a0 =some r) ?_ ?_
 ·intro K2 hK2;refine seqR (S As (nil ?_));refine block ?_;refine loopH (TA 0 KeepsT.nil) (fun(z:Nat×Nat)=>[(3,.a (.d (.int .i64 ((z.2:Nat):Int))))]) (fun z=>H) (fun z=>z.1) (fun z=>Z44_l6 a0 z.1 z.2=some r) ((a0.l.length+1),0) hE Weak.toA ?_;rintro ⟨n6,s3_7⟩ hE K6 hK6;try dsimp only at hE
  cases n6 with
  | zero=>cases hE
  | succ n6 =>
    rw [Z44_l6] at hE;refine seqK fun K8 hK8=>?_;refine seqR (S Mv (S Mv ?_));refine sLen (f:=TArg.c) (s:=a0) (TK rfl) rfl rfl rfl rfl fun hL10=>?_;refine S BI (nil ?_);refine cE hE (fun hc11 hE=>?_) (fun hc11 hE=>?_)
    ·try dsimp only at hc11
     have hf11:=of_decide_eq_true hc11;refine sk hK8 ?_;clear hK8 K8;refine seqK fun K12 hK12=>?_;refine block ?_;refine seqR (S Mv (S Mv ?_));obtain⟨x14,gx14,hE⟩:=bO hE;refine S (ix TArg.c s3_7 gx14) (S Fv (S Ld ?_));obtain⟨x15,gx15,hE⟩:=bO hE;refine Sc rfl rfl (Z25_walk gx15) ?_;refine S NB (S Mv (G0 Mv (G0 Mv ?_)));obtain⟨x16,gx16,hE⟩:=gO hE;refine gC rfl rfl (fun hC=>ungdA (k:=18) rfl (ungdA (k:=19) rfl (idxMn (f:=TArg.c) (n:=s3_7) (TK rfl) rfl (TK rfl) rfl rfl rfl (gx16 hC)))) rfl ?_
     refine G1 20 rfl Fv ?_;refine G1 21 rfl Ld ?_;obtain⟨x17,gx17,hE⟩:=gO hE;refine Gc1 22 rfl rfl rfl rfl rfl (fun hC=>Z30_walk (gx17 hC)) ?_;refine G1 23 rfl NB ?_;refine S PO (nil ?_);refine cE hE (fun hc18 hE=>?_) (fun hc18 hE=>?_)
     ·refine seqR (S As (nil ?_));exact rt hE
     refine sk hK12 ?_;clear hK12 K12;refine region ?_;refine S Mv ?_;refine SI ?_;refine S As (nil ?_);exact hK6 _ (n6,(s3_7+1)) Weak.toA hE (Nat.lt_succ_self _)
    refine AWp.exit ?_;exact hK2 _ () Weak.toA hE
 rintro _ hE;try dsimp only at hE
 unfold Z44_j2 at hE;refine seqR (S Mv ?_);refine sLen (f:=TArg.c) (s:=a0) (TK rfl) rfl rfl rfl rfl fun hL4=>?_;refine S BI (S As (nil ?_));exact rt hE
def Z46_j2 (a0:(Sl TDir))  :Option Bool:=some (decide (((a0.l.length:Nat):Int)<=(16:Int)))
def Z46_l6 (a0:(Sl TDir)) :Nat->Nat->Option Bool
 | 0,_=>none
 | n6+1,s3_7=>bif (decide (((s3_7:Nat):Int)<((a0.l.length:Nat):Int))) then((a0.l[s3_7]?).bind fun x14=>(Z25 x14.FName).bind fun x15=>guardO (!(!x15)) (a0.l[s3_7]?) TDir.zero fun x16=>guardO (!(!x15)) (Z44 x16.FArgs) false fun x17=>bif ((!x15)||(!x17)) then(some false) else((Z46_l6 a0 n6) (s3_7+1))) else(Z46_j2 a0  )
def Z46 (a0:(Sl TDir)):Option Bool:=Z46_l6 a0 (a0.l.length+1) 0
theorem Z46_walk {a0:Sl TDir}{w0:Option Nat}{r:Bool}(hE:Z46 a0=some r) (H:Heap) :ACalls Tryz.prog 102 [.d (Sl.d 2 TDir.c w0 a0)] H fun v h'=>v=.a (.d (.bool r))/\h'=H:=by
 unfold Z46 at hE;refine ACalls.oW 29 [.tmp 2] Tryz.call102 Tryz.func102 ?_;refine seqR (S As (nil ?_));refine seqJH (TA 0 KeepsT.nil) (fun(z:Unit)=>[]) (fun z=>H) (fun z=>Z46_j2 a0 =some r) ?_ ?_
 ·intro K2 hK2;refine seqR (S As (nil ?_));refine block ?_;refine loopH (TA 0 KeepsT.nil) (fun(z:Nat×Nat)=>[(3,.a (.d (.int .i64 ((z.2:Nat):Int))))]) (fun z=>H) (fun z=>z.1) (fun z=>Z46_l6 a0 z.1 z.2=some r) ((a0.l.length+1),0) hE Weak.toA ?_;rintro ⟨n6,s3_7⟩ hE K6 hK6;try dsimp only at hE
  cases n6 with
  | zero=>cases hE
  | succ n6 =>
    rw [Z46_l6] at hE;refine seqK fun K8 hK8=>?_;refine seqR (S Mv (S Mv ?_));refine sLen (f:=TDir.c) (s:=a0) (TK rfl) rfl rfl rfl rfl fun hL10=>?_;refine S BI (nil ?_);refine cE hE (fun hc11 hE=>?_) (fun hc11 hE=>?_)
    ·try dsimp only at hc11
     have hf11:=of_decide_eq_true hc11;refine sk hK8 ?_;clear hK8 K8;refine seqK fun K12 hK12=>?_;refine block ?_;refine seqR (S Mv (S Mv ?_));obtain⟨x14,gx14,hE⟩:=bO hE;refine S (ix TDir.c s3_7 gx14) (S Fv (S Ld ?_));obtain⟨x15,gx15,hE⟩:=bO hE;refine Sc rfl rfl (Z25_walk gx15) ?_;refine S NB (S Mv (G0 Mv (G0 Mv ?_)));obtain⟨x16,gx16,hE⟩:=gO hE;refine gC rfl rfl (fun hC=>ungdA (k:=18) rfl (ungdA (k:=19) rfl (idxMn (f:=TDir.c) (n:=s3_7) (TK rfl) rfl (TK rfl) rfl rfl rfl (gx16 hC)))) rfl ?_
     refine G1 20 rfl Fv ?_;refine G1 21 rfl Ld ?_;obtain⟨x17,gx17,hE⟩:=gO hE;refine Gc1 22 rfl rfl rfl rfl rfl (fun hC=>Z44_walk (gx17 hC)) ?_;refine G1 23 rfl NB ?_;refine S PO (nil ?_);refine cE hE (fun hc18 hE=>?_) (fun hc18 hE=>?_)
     ·refine seqR (S As (nil ?_));exact rt hE
     refine sk hK12 ?_;clear hK12 K12;refine region ?_;refine S Mv ?_;refine SI ?_;refine S As (nil ?_);exact hK6 _ (n6,(s3_7+1)) Weak.toA hE (Nat.lt_succ_self _)
    refine AWp.exit ?_;exact hK2 _ () Weak.toA hE
 rintro _ hE;try dsimp only at hE
 unfold Z46_j2 at hE;refine seqR (S Mv ?_);refine sLen (f:=TDir.c) (s:=a0) (TK rfl) rfl rfl rfl rfl fun hL4=>?_;refine S BI (S As (nil ?_));exact rt hE
def r08_selsRight_j7  :Option Bool:=some true
def r08_selsRight_l10 (a0:(Sl TSel)) (a1:Int) (k_rec_66:TSel->Int->Option Bool):Nat->Nat->Option Bool
 | 0,_=>none
 | n10+1,s5_11=>bif (decide (((s5_11:Nat):Int)<((a0.l.length:Nat):Int))) then((a0.l[s5_11]?).bind fun x18=>(k_rec_66 x18 a1).bind fun x19=>bif (!x19) then(some false) else((r08_selsRight_l10 a0 a1 k_rec_66 n10) (s5_11+1))) else(r08_selsRight_j7   )
mutual
def r08_selsRight_n:Nat->(Sl TSel)->Int->Option Bool
 | 0,_,_=>none
 | n+1,a0,a1=>bif (((decide (((a0.l.length:Nat):Int)=(0:Int)))||(decide ((64:Int)<((a0.l.length:Nat):Int))))||(decide ((24:Int)<a1))) then(some false) else(r08_selsRight_l10 a0 a1 (Z47_n n) (a0.l.length+1) 0)
def Z47_n:Nat->TSel->Int->Option Bool
 | 0,_,_=>none
 | n+1,a0,a1=>(Z46 a0.FDirs).bind fun x4=>guardO (!(!x4)) (Z44 a0.FArgs) false fun x5=>bif ((!x4)||(!x5)) then(some false) else(bif (decide (a0.FKind=(1:Int))) then((Z25 a0.FName).bind fun x13=>guardO ((x13&&!((a0.FAlias==([]:Bs))))) (Z25 a0.FAlias) false fun x14=>guardO ((((x13&&(((a0.FAlias==([]:Bs)))||x14))&&((a0.FOn==([]:Bs))))&&!(decide (((a0.FSels.l.length:Nat):Int)=(0:Int))))) (addC a1 (1:Int)) (0:Int) fun x15=>guardO ((((x13&&(((a0.FAlias==([]:Bs)))||x14))&&((a0.FOn==([]:Bs))))&&!(decide (((a0.FSels.l.length:Nat):Int)=(0:Int))))) ((r08_selsRight_n n) a0.FSels x15) false fun x16=>some (((x13&&(((a0.FAlias==([]:Bs)))||x14))&&((a0.FOn==([]:Bs))))&&((decide (((a0.FSels.l.length:Nat):Int)=(0:Int)))||x16))) else(bif (decide (a0.FKind=(2:Int))) then((Z48 a0.FName).bind fun x20=>some ((((x20&&((a0.FAlias==([]:Bs))))&&((a0.FOn==([]:Bs))))&&(decide (((a0.FArgs.l.length:Nat):Int)=(0:Int))))&&(decide (((a0.FSels.l.length:Nat):Int)=(0:Int))))) else(bif (decide (a0.FKind=(3:Int))) then(guardO (((((a0.FName==([]:Bs)))&&((a0.FAlias==([]:Bs))))&&!((a0.FOn==([]:Bs))))) (Z25 a0.FOn) false fun x24=>guardO ((((((a0.FName==([]:Bs)))&&((a0.FAlias==([]:Bs))))&&(((a0.FOn==([]:Bs)))||x24))&&(decide (((a0.FArgs.l.length:Nat):Int)=(0:Int))))) (addC a1 (1:Int)) (0:Int) fun x25=>guardO ((((((a0.FName==([]:Bs)))&&((a0.FAlias==([]:Bs))))&&(((a0.FOn==([]:Bs)))||x24))&&(decide (((a0.FArgs.l.length:Nat):Int)=(0:Int))))) ((r08_selsRight_n n) a0.FSels x25) false fun x26=>some ((((((a0.FName==([]:Bs)))&&((a0.FAlias==([]:Bs))))&&(((a0.FOn==([]:Bs)))||x24))&&(decide (((a0.FArgs.l.length:Nat):Int)=(0:Int))))&&x26)) else(some false))))
end
theorem r08_selsRight_step (n:Nat) (ih_30:∀{a0:Sl TSel}{a1:Int}{w0:Option Nat}{r:Bool},r08_selsRight_n n a0 a1=some r->∀(H:Heap),ACalls Tryz.prog 30 [.d (Sl.d 7 TSel.c w0 a0),.d (.int .i64 a1)] H fun v h'=>v=.a (.d (.bool r))/\h'=H) (ih_66:∀{a0:TSel}{a1:Int}{r:Bool},Z47_n n a0 a1=some r->∀(H:Heap),ACalls Tryz.prog 66 [.agg (TSel.c a0),.d (.int .i64 a1)] H fun v h'=>v=.a (.d (.bool r))/\h'=H):∀{a0:Sl TSel}{a1:Int}{w0:Option Nat}{r:Bool},r08_selsRight_n (n+1) a0 a1=some r->∀(H:Heap),ACalls Tryz.prog 30 [.d (Sl.d 7 TSel.c w0 a0),.d (.int .i64 a1)] H fun v h'=>v=.a (.d (.bool r))/\h'=H:=by
 intro a0 a1 w0  r hE H ;rw [r08_selsRight_n] at hE;refine ACalls.oW 31 [.tmp 4] Tryz.call30 Tryz.func30 ?_;refine seqR (S As (nil ?_));refine seqK fun K2 hK2=>?_;refine seqR (S Mv ?_);refine sLen (f:=TSel.c) (s:=a0) (TK rfl) rfl rfl rfl rfl fun hL4=>?_;refine S BI (S Mv (G0 Mv ?_));refine gC rfl rfl (fun hC=>ungdA (k:=10) rfl (lenM' (f:=TSel.c) (s:=a0) (TK rfl) rfl rfl rfl)) rfl ?_;refine G1 11 rfl BI ?_
 refine S PO (S Mv (G0 Mv ?_));refine G1 15 rfl BI ?_;refine S PO (nil ?_);refine cE hE (fun hc5 hE=>?_) (fun hc5 hE=>?_)
 ·refine seqR (S As (nil ?_));exact rt hE
 refine sk hK2 ?_;clear hK2 K2;refine seqJH KeepsT.nil (fun(z:Unit)=>[]) (fun z=>H) (fun z=>r08_selsRight_j7 =some r) ?_ ?_
 ·intro K7 hK7;refine seqR (S As (nil ?_));refine block ?_;refine loopH (TA 0 (TA 1 KeepsT.nil)) (fun(z:Nat×Nat)=>[(5,.a (.d (.int .i64 ((z.2:Nat):Int))))]) (fun z=>H) (fun z=>z.1) (fun z=>r08_selsRight_l10 a0 a1 (Z47_n n) z.1 z.2=some r) ((a0.l.length+1),0) hE Weak.toA ?_;rintro ⟨n10,s5_11⟩ hE K10 hK10;try dsimp only at hE
  cases n10 with
  | zero=>cases hE
  | succ n10 =>
    rw [r08_selsRight_l10] at hE;refine seqK fun K12 hK12=>?_;refine seqR (S Mv (S Mv ?_));refine sLen (f:=TSel.c) (s:=a0) (TK rfl) rfl rfl rfl rfl fun hL14=>?_;refine S BI (nil ?_);refine cE hE (fun hc15 hE=>?_) (fun hc15 hE=>?_)
    ·try dsimp only at hc15
     have hf15:=of_decide_eq_true hc15;refine sk hK12 ?_;clear hK12 K12;refine seqK fun K16 hK16=>?_;refine block ?_;refine seqR (S Mv (S Mv ?_));obtain⟨x18,gx18,hE⟩:=bO hE;refine S (ix TSel.c s5_11 gx18) (S Ld (S Mv ?_));obtain⟨x19,gx19,hE⟩:=bO hE;refine Sc rfl rfl (ih_66 gx19) ?_;refine S NB (nil ?_);refine cE hE (fun hc20 hE=>?_) (fun hc20 hE=>?_)
     ·refine seqR (S As (nil ?_));exact rt hE
     refine sk hK16 ?_;clear hK16 K16;refine region ?_;refine S Mv ?_;refine SI ?_;refine S As (nil ?_);exact hK10 _ (n10,(s5_11+1)) Weak.toA hE (Nat.lt_succ_self _)
    refine AWp.exit ?_;exact hK7 _ () Weak.toA hE
 rintro _ hE;try dsimp only at hE
 unfold r08_selsRight_j7 at hE;refine seqR (S As (nil ?_));exact rt hE
theorem Z47_step (n:Nat) (ih_30:∀{a0:Sl TSel}{a1:Int}{w0:Option Nat}{r:Bool},r08_selsRight_n n a0 a1=some r->∀(H:Heap),ACalls Tryz.prog 30 [.d (Sl.d 7 TSel.c w0 a0),.d (.int .i64 a1)] H fun v h'=>v=.a (.d (.bool r))/\h'=H) (ih_66:∀{a0:TSel}{a1:Int}{r:Bool},Z47_n n a0 a1=some r->∀(H:Heap),ACalls Tryz.prog 66 [.agg (TSel.c a0),.d (.int .i64 a1)] H fun v h'=>v=.a (.d (.bool r))/\h'=H):∀{a0:TSel}{a1:Int}{r:Bool},Z47_n (n+1) a0 a1=some r->∀(H:Heap),ACalls Tryz.prog 66 [.agg (TSel.c a0),.d (.int .i64 a1)] H fun v h'=>v=.a (.d (.bool r))/\h'=H:=by
 intro a0 a1   r hE H ;rw [Z47_n] at hE;refine ACalls.oW 110 [.tmp 4] Tryz.call66 Tryz.func66 ?_;refine seqR (S BX (S As (nil ?_)));refine seqK fun K2 hK2=>?_;refine seqR (S Fv (S Ld ?_));obtain⟨x4,gx4,hE⟩:=bO hE;refine Sc rfl rfl (Z46_walk gx4) ?_;refine S NB (S Mv (G0 Fv ?_));refine G1 10 rfl Ld ?_;obtain⟨x5,gx5,hE⟩:=gO hE;refine Gc1 11 rfl rfl rfl rfl rfl (fun hC=>Z44_walk (gx5 hC)) ?_;refine G1 12 rfl NB ?_
 refine S PO (nil ?_);refine cE hE (fun hc6 hE=>?_) (fun hc6 hE=>?_)
 ·refine seqR (S As (nil ?_));exact rt hE
 refine sk hK2 ?_;clear hK2 K2;refine seqK fun K8 hK8=>?_;refine seqR (S Fv (S Ld (nil ?_)));refine block ?_;refine seqR (S BI (S As (nil ?_)));refine cE hE (fun hc11 hE=>?_) (fun hc11 hE=>?_)
 ·refine seqR (S Fv (S Ld ?_));obtain⟨x13,gx13,hE⟩:=bO hE;refine Sc rfl rfl (Z25_walk gx13) ?_;refine S Mv (G0 Fv ?_);refine G1 23 rfl Ld ?_;refine G1 24 rfl BS ?_;refine G1 25 rfl Mv ?_;refine G0 Fv ?_;refine G1 27 rfl Ld ?_;obtain⟨x14,gx14,hE⟩:=gO hE;refine Gc1 28 rfl rfl rfl rfl rfl (fun hC=>Z25_walk (gx14 hC)) ?_;refine gC rfl rfl (fun hC=>ungdA (k:=26) rfl (pickOrA rfl rfl rfl)) rfl ?_;refine S PA (S Mv (G0 Fv ?_))
  refine G1 33 rfl Ld ?_;refine G1 34 rfl BS ?_;refine S PA (S Mv (G0 Fv ?_));refine gC rfl rfl (fun hC=>ungdA (k:=38) rfl (loadV (TK rfl) rfl rfl (congrArg (fun x=>some (A.d x)) (TSel.FSelsD_eq _)))) rfl ?_;refine gC rfl rfl (fun hC=>ungdA (k:=39) rfl (lenM' (f:=TSel.c) (s:=a0.FSels) (TK rfl) rfl rfl rfl)) rfl ?_;refine G1 40 rfl BI ?_;refine G1 41 rfl Mv ?_;refine G0 Fv ?_;refine gC rfl rfl (fun hC=>ungdA (k:=43) rfl (loadV (TK rfl) rfl rfl (congrArg (fun x=>some (A.d x)) (TSel.FSelsD_eq _)))) rfl ?_
  refine G0 Mv ?_;obtain⟨x15,gx15,hE⟩:=gO hE;refine gC rfl rfl (fun hC=>ungdA (k:=45) rfl (addM rfl rfl (gx15 hC))) rfl ?_;obtain⟨x16,gx16,hE⟩:=gO hE;refine Gc2 44 46 rfl rfl rfl rfl rfl rfl (fun hC=>ih_30 (gx16 hC)) ?_;refine gC rfl rfl (fun hC=>ungdA (k:=42) rfl (pickOrA rfl rfl rfl)) rfl ?_;refine S PA (S As (nil ?_));exact rt hE
 refine seqR (S BI (S As (nil ?_)));refine cE hE (fun hc18 hE=>?_) (fun hc18 hE=>?_)
 ·refine seqR (S Fv (S Ld ?_));obtain⟨x20,gx20,hE⟩:=bO hE;refine Sc rfl rfl (Z48_walk gx20) ?_;refine S Mv (G0 Fv ?_);refine G1 56 rfl Ld ?_;refine G1 57 rfl BS ?_;refine S PA (S Mv (G0 Fv ?_));refine G1 61 rfl Ld ?_;refine G1 62 rfl BS ?_;refine S PA (S Mv (G0 Fv ?_));refine G1 66 rfl Ld ?_;refine gC rfl rfl (fun hC=>ungdA (k:=67) rfl (lenM' (f:=TArg.c) (s:=a0.FArgs) (TK rfl) rfl rfl rfl)) rfl ?_
  refine G1 68 rfl BI ?_;refine S PA (S Mv (G0 Fv ?_));refine gC rfl rfl (fun hC=>ungdA (k:=72) rfl (loadV (TK rfl) rfl rfl (congrArg (fun x=>some (A.d x)) (TSel.FSelsD_eq _)))) rfl ?_;refine gC rfl rfl (fun hC=>ungdA (k:=73) rfl (lenM' (f:=TSel.c) (s:=a0.FSels) (TK rfl) rfl rfl rfl)) rfl ?_;refine G1 74 rfl BI ?_;refine S PA (S As (nil ?_));exact rt hE
 refine seqR (S BI (S As (nil ?_)));refine cE hE (fun hc22 hE=>?_) (fun hc22 hE=>?_)
 ·refine seqR (S Fv (S Ld (S BS (S Mv (G0 Fv ?_)))));refine G1 83 rfl Ld ?_;refine G1 84 rfl BS ?_;refine S PA (S Mv (G0 Fv ?_));refine G1 88 rfl Ld ?_;refine G1 89 rfl BS ?_;refine G1 90 rfl Mv ?_;refine G0 Fv ?_;refine G1 92 rfl Ld ?_;obtain⟨x24,gx24,hE⟩:=gO hE;refine Gc1 93 rfl rfl rfl rfl rfl (fun hC=>Z25_walk (gx24 hC)) ?_;refine gC rfl rfl (fun hC=>ungdA (k:=91) rfl (pickOrA rfl rfl rfl)) rfl ?_
  refine S PA (S Mv (G0 Fv ?_));refine G1 98 rfl Ld ?_;refine gC rfl rfl (fun hC=>ungdA (k:=99) rfl (lenM' (f:=TArg.c) (s:=a0.FArgs) (TK rfl) rfl rfl rfl)) rfl ?_;refine G1 100 rfl BI ?_;refine S PA (S Mv (G0 Fv ?_));refine gC rfl rfl (fun hC=>ungdA (k:=104) rfl (loadV (TK rfl) rfl rfl (congrArg (fun x=>some (A.d x)) (TSel.FSelsD_eq _)))) rfl ?_;refine G0 Mv ?_;obtain⟨x25,gx25,hE⟩:=gO hE;refine gC rfl rfl (fun hC=>ungdA (k:=106) rfl (addM rfl rfl (gx25 hC))) rfl ?_
  obtain⟨x26,gx26,hE⟩:=gO hE;refine Gc2 105 107 rfl rfl rfl rfl rfl rfl (fun hC=>ih_30 (gx26 hC)) ?_;refine S PA (S As (nil ?_));exact rt hE
 refine sk hK8 ?_;clear hK8 K8;refine seqR (S As (nil ?_));exact rt hE
theorem r08_selsRight_all:∀(n:Nat),(∀{a0:Sl TSel}{a1:Int}{w0:Option Nat}{r:Bool},r08_selsRight_n n a0 a1=some r->∀(H:Heap),ACalls Tryz.prog 30 [.d (Sl.d 7 TSel.c w0 a0),.d (.int .i64 a1)] H fun v h'=>v=.a (.d (.bool r))/\h'=H)/\(∀{a0:TSel}{a1:Int}{r:Bool},Z47_n n a0 a1=some r->∀(H:Heap),ACalls Tryz.prog 66 [.agg (TSel.c a0),.d (.int .i64 a1)] H fun v h'=>v=.a (.d (.bool r))/\h'=H)
 | 0=>⟨fun hE=>by first|cases hE|(rw [r08_selsRight_n] at hE; cases hE),fun hE=>by first|cases hE|(rw [Z47_n] at hE; cases hE)⟩
 | n+1=>⟨r08_selsRight_step n (r08_selsRight_all n).1 (r08_selsRight_all n).2,Z47_step n (r08_selsRight_all n).1 (r08_selsRight_all n).2⟩
def r08_selsRight (a0:(Sl TSel)) (a1:Int):Option Bool:=r08_selsRight_n F0 a0 a1
theorem r08_selsRight_walk {a0:Sl TSel}{a1:Int}{w0:Option Nat}{r:Bool}(hE:r08_selsRight a0 a1=some r) (H:Heap) :ACalls Tryz.prog 30 [.d (Sl.d 7 TSel.c w0 a0),.d (.int .i64 a1)] H fun v h'=>v=.a (.d (.bool r))/\h'=H:=(r08_selsRight_all F0).1 hE H 
def Z43_j11  :Option Bool:=some true
def Z43_l14 (a0:Z6) :Nat->Nat->Option Bool
 | 0,_=>none
 | n14+1,s6_15=>bif (decide (((s6_15:Nat):Int)<((a0.FFrags.l.length:Nat):Int))) then((a0.FFrags.l[s6_15]?).bind fun x22=>(Z48 x22.FName).bind fun x24=>guardO (!(!x24)) (Z25 x22.FOn) false fun x25=>guardO (!((!x24)||(!x25))) (r08_selsRight x22.FSels (1:Int)) false fun x26=>bif (((!x24)||(!x25))||(!x26)) then(some false) else((Z43_l14 a0 n14) (s6_15+1))) else(Z43_j11   )
def Z43_j10 (a0:Z6)  :Option Bool:=Z43_l14 a0 (a0.FFrags.l.length+1) 0
def Z43_l30 (a0:Z6) :Nat->Nat->Option Bool
 | 0,_=>none
 | n30+1,s4_31=>bif (decide (((s4_31:Nat):Int)<((a0.FOps.l.length:Nat):Int))) then((a0.FOps.l[s4_31]?).bind fun x38=>guardO ((!((decide (x38.FKind<(1:Int)))||(decide ((3:Int)<x38.FKind)))&&(!(x38.FName==([]:Bs))))) (Z25 x38.FName) false fun x40=>guardO (!(((decide (x38.FKind<(1:Int)))||(decide ((3:Int)<x38.FKind)))||((!(x38.FName==([]:Bs)))&&(!x40)))) (Z49 x38.FVars) false fun x41=>guardO (!((((decide (x38.FKind<(1:Int)))||(decide ((3:Int)<x38.FKind)))||((!(x38.FName==([]:Bs)))&&(!x40)))||(!x41))) (r08_selsRight x38.FSels (1:Int)) false fun x42=>bif (((((decide (x38.FKind<(1:Int)))||(decide ((3:Int)<x38.FKind)))||((!(x38.FName==([]:Bs)))&&(!x40)))||(!x41))||(!x42)) then(some false) else((Z43_l30 a0 n30) (s4_31+1))) else(Z43_j10 a0  )
def Z43 (a0:Z6):Option Bool:=(addC ((a0.FOps.l.length:Nat):Int) ((a0.FFrags.l.length:Nat):Int)).bind fun x5=>bif ((decide (x5<(1:Int)))||(decide ((64:Int)<x5))) then(some false) else(Z43_l30 a0 (a0.FOps.l.length+1) 0)
theorem Z43_walk {a0:Z6}{r:Bool}(hE:Z43 a0=some r) (H:Heap) :ACalls Tryz.prog 13 [.agg (Z6.c a0)] H fun v h'=>v=.a (.d (.bool r))/\h'=H:=by
 unfold Z43 at hE;refine ACalls.oW 92 [.tmp 2] Tryz.call13 Tryz.func13 ?_;refine seqR (S BX (S As (nil ?_)));refine seqR (S Fv (S Ld ?_));refine sLen (f:=TOp.c) (s:=a0.FOps) (TK rfl) rfl rfl rfl rfl fun hL3=>?_;refine S Fv (S Ld ?_);refine sLen (f:=Z3.c) (s:=a0.FFrags) (TK rfl) rfl rfl rfl rfl fun hL4=>?_;obtain⟨x5,gx5,hE⟩:=bO hE;refine s0 (addM rfl rfl gx5) rfl ?_;refine S As (nil ?_);refine seqK fun K6 hK6=>?_
 refine seqR (S Mv (S BI (S Mv (G0 Mv ?_))));refine G1 18 rfl BI ?_;refine S PO (nil ?_);refine cE hE (fun hc8 hE=>?_) (fun hc8 hE=>?_)
 ·refine seqR (S As (nil ?_));exact rt hE
 refine sk hK6 ?_;clear hK6 K6;refine seqJH (TA 1 KeepsT.nil) (fun(z:Unit)=>[]) (fun z=>H) (fun z=>Z43_j10 a0 =some r) ?_ ?_
 ·intro K10 hK10;refine seqR (S As (nil ?_));refine block ?_;refine loopH (TA 1 KeepsT.nil) (fun(z:Nat×Nat)=>[(4,.a (.d (.int .i64 ((z.2:Nat):Int))))]) (fun z=>H) (fun z=>z.1) (fun z=>Z43_l30 a0 z.1 z.2=some r) ((a0.FOps.l.length+1),0) hE Weak.toA ?_;rintro ⟨n30,s4_31⟩ hE K30 hK30;try dsimp only at hE
  cases n30 with
  | zero=>cases hE
  | succ n30 =>
    rw [Z43_l30] at hE;refine seqK fun K32 hK32=>?_;refine seqR (S Mv (S Fv (S Ld ?_)));refine sLen (f:=TOp.c) (s:=a0.FOps) (TK rfl) rfl rfl rfl rfl fun hL34=>?_;refine S BI (nil ?_);refine cE hE (fun hc35 hE=>?_) (fun hc35 hE=>?_)
    ·try dsimp only at hc35
     have hf35:=of_decide_eq_true hc35;refine sk hK32 ?_;clear hK32 K32;refine seqK fun K36 hK36=>?_;refine block ?_;refine seqR (S Fv (S Ld (S Mv ?_)));obtain⟨x38,gx38,hE⟩:=bO hE;refine S (ix TOp.c s4_31 gx38) (S Ld ?_);refine Sl ?_;refine Sf ?_;refine nil ?_;refine freezeA 5 _ rfl (KA 1 (KA 4 Keeps.nil)) ?_;refine seqR (S Fv (S Ld (S BI (S Mv (G0 Fv ?_)))));refine G1 37 rfl Ld ?_;refine G1 38 rfl BI ?_
     refine S PO (S Mv (G0 Fv ?_));refine G1 42 rfl Ld ?_;refine G1 43 rfl BS ?_;refine G1 44 rfl Mv ?_;refine G0 Fv ?_;refine G1 46 rfl Ld ?_;obtain⟨x40,gx40,hE⟩:=gO hE;refine Gc1 47 rfl rfl rfl rfl rfl (fun hC=>Z25_walk (gx40 hC)) ?_;refine G1 48 rfl NB ?_;refine gC rfl rfl (fun hC=>ungdA (k:=45) rfl (pickAndA rfl rfl rfl)) rfl ?_;refine S PO (S Mv (G0 Fv ?_));refine G1 53 rfl Ld ?_;obtain⟨x41,gx41,hE⟩:=gO hE
     refine Gc1 54 rfl rfl rfl rfl rfl (fun hC=>Z49_walk (gx41 hC)) ?_;refine G1 55 rfl NB ?_;refine S PO (S Mv (G0 Fv ?_));refine G1 59 rfl Ld ?_;obtain⟨x42,gx42,hE⟩:=gO hE;refine Gc1 60 rfl rfl rfl rfl rfl (fun hC=>r08_selsRight_walk (gx42 hC)) ?_;refine G1 61 rfl NB ?_;refine S PO (nil ?_);refine cE hE (fun hc43 hE=>?_) (fun hc43 hE=>?_)
     ·refine seqR (S As (nil ?_));exact rt hE
     refine sk hK36 ?_;clear hK36 K36;refine region ?_;refine S Mv ?_;refine SI ?_;refine S As (nil ?_);exact hK30 _ (n30,(s4_31+1)) Weak.toA hE (Nat.lt_succ_self _)
    refine AWp.exit ?_;exact hK10 _ () Weak.toA hE
 rintro _ hE;try dsimp only at hE
 unfold Z43_j10 at hE;refine seqJH KeepsT.nil (fun(z:Unit)=>[]) (fun z=>H) (fun z=>Z43_j11 =some r) ?_ ?_
 ·intro K11 hK11;refine seqR (S As (nil ?_));refine block ?_;refine loopH (TA 1 KeepsT.nil) (fun(z:Nat×Nat)=>[(6,.a (.d (.int .i64 ((z.2:Nat):Int))))]) (fun z=>H) (fun z=>z.1) (fun z=>Z43_l14 a0 z.1 z.2=some r) ((a0.FFrags.l.length+1),0) hE Weak.toA ?_;rintro ⟨n14,s6_15⟩ hE K14 hK14;try dsimp only at hE
  cases n14 with
  | zero=>cases hE
  | succ n14 =>
    rw [Z43_l14] at hE;refine seqK fun K16 hK16=>?_;refine seqR (S Mv (S Fv (S Ld ?_)));refine sLen (f:=Z3.c) (s:=a0.FFrags) (TK rfl) rfl rfl rfl rfl fun hL18=>?_;refine S BI (nil ?_);refine cE hE (fun hc19 hE=>?_) (fun hc19 hE=>?_)
    ·try dsimp only at hc19
     have hf19:=of_decide_eq_true hc19;refine sk hK16 ?_;clear hK16 K16;refine seqK fun K20 hK20=>?_;refine block ?_;refine seqR (S Fv (S Ld (S Mv ?_)));obtain⟨x22,gx22,hE⟩:=bO hE;refine S (ix Z3.c s6_15 gx22) (S Ld ?_);refine Sl ?_;refine Sf ?_;refine nil ?_;refine freezeA 7 _ rfl (KA 1 (KA 6 Keeps.nil)) ?_;refine seqR (S Fv (S Ld ?_));obtain⟨x24,gx24,hE⟩:=bO hE;refine Sc rfl rfl (Z48_walk gx24) ?_
     refine S NB (S Mv (G0 Fv ?_));refine G1 81 rfl Ld ?_;obtain⟨x25,gx25,hE⟩:=gO hE;refine Gc1 82 rfl rfl rfl rfl rfl (fun hC=>Z25_walk (gx25 hC)) ?_;refine G1 83 rfl NB ?_;refine S PO (S Mv (G0 Fv ?_));refine G1 87 rfl Ld ?_;obtain⟨x26,gx26,hE⟩:=gO hE;refine Gc1 88 rfl rfl rfl rfl rfl (fun hC=>r08_selsRight_walk (gx26 hC)) ?_;refine G1 89 rfl NB ?_;refine S PO (nil ?_);refine cE hE (fun hc27 hE=>?_) (fun hc27 hE=>?_)
     ·refine seqR (S As (nil ?_));exact rt hE
     refine sk hK20 ?_;clear hK20 K20;refine region ?_;refine S Mv ?_;refine SI ?_;refine S As (nil ?_);exact hK14 _ (n14,(s6_15+1)) Weak.toA hE (Nat.lt_succ_self _)
    refine AWp.exit ?_;exact hK11 _ () Weak.toA hE
 rintro _ hE;try dsimp only at hE
 unfold Z43_j11 at hE;refine seqR (S As (nil ?_));exact rt hE
end Go.Proofs

namespace Go.Proofs
open Go Go.Ab
open AOps Cert AWp Keeps KeepsT
variable {lou:Lou}
def Z60 (a0:Bs):Option Bool:=some (((((a0==([73,110,116]:Bs)))||((a0==([83,116,114,105,110,103]:Bs))))||((a0==([66,111,111,108,101,97,110]:Bs))))||((a0==([73,68]:Bs))))
theorem Z60_walk {a0:Bs}{r:Bool}(hE:Z60 a0=some r) (H:Heap) :ACalls Tryz.prog 67 [.d (.str a0)] H fun v h'=>v=.a (.d (.bool r))/\h'=H:=by
 unfold Z60 at hE;refine ACalls.oW 17 [.tmp 2] Tryz.call67 Tryz.func67 ?_;refine seqR (S As (nil ?_));refine seqR (S Mv (S BS (S Mv (G0 Mv ?_))));refine G1 6 rfl BS ?_;refine S PO (S Mv (G0 Mv ?_));refine G1 10 rfl BS ?_;refine S PO (S Mv (G0 Mv ?_));refine G1 14 rfl BS ?_;refine S PO (S As (nil ?_));exact rt hE
def Z26 (a0:Bs):Option Bool:=guardO ((decide ((2:Int)<=((a0.length:Nat):Int)))) (a0[0]?) (0:UInt8) fun x4=>guardO (((decide ((2:Int)<=((a0.length:Nat):Int)))&&(decide (((x4.toNat:Nat):Int)=(95:Int))))) (a0[1]?) (0:UInt8) fun x5=>some (((decide ((2:Int)<=((a0.length:Nat):Int)))&&(decide (((x4.toNat:Nat):Int)=(95:Int))))&&(decide (((x5.toNat:Nat):Int)=(95:Int))))
theorem Z26_walk {a0:Bs}{r:Bool}(hE:Z26 a0=some r) (H:Heap) :ACalls Tryz.prog 126 [.d (.str a0)] H fun v h'=>v=.a (.d (.bool r))/\h'=H:=by
 unfold Z26 at hE;refine ACalls.oW 16 [.tmp 2] Tryz.call126 Tryz.func126 ?_;refine seqR (S As (nil ?_));refine seqR (S Mv ?_);refine sLenS (TK rfl) rfl rfl rfl rfl fun hL3=>?_;refine S BI (S Mv (G0 Mv ?_));obtain⟨x4,gx4,hE⟩:=gO hE;refine gC rfl rfl (fun hC=>ungdA (k:=7) rfl (idxSn (n:=0) (TK rfl) rfl rfl rfl (gx4 hC))) rfl ?_;refine G1 8 rfl BI ?_;refine S PA (S Mv (G0 Mv ?_));obtain⟨x5,gx5,hE⟩:=gO hE
 refine gC rfl rfl (fun hC=>ungdA (k:=12) rfl (idxSn (n:=1) (TK rfl) rfl rfl rfl (gx5 hC))) rfl ?_;refine G1 13 rfl BI ?_;refine S PA (S As (nil ?_));exact rt hE
def Z61 (a0:Bs):Option Bool:=(Z25 a0).bind fun x3=>guardO (x3) (Z26 a0) false fun x4=>some (x3&&(!x4))
theorem Z61_walk {a0:Bs}{r:Bool}(hE:Z61 a0=some r) (H:Heap) :ACalls Tryz.prog 104 [.d (.str a0)] H fun v h'=>v=.a (.d (.bool r))/\h'=H:=by
 unfold Z61 at hE;refine ACalls.oW 10 [.tmp 2] Tryz.call104 Tryz.func104 ?_;refine seqR (S As (nil ?_));refine seqR (S Mv ?_);obtain⟨x3,gx3,hE⟩:=bO hE;refine Sc rfl rfl (Z25_walk gx3) ?_;refine S Mv (G0 Mv ?_);obtain⟨x4,gx4,hE⟩:=gO hE;refine Gc1 6 rfl rfl rfl rfl rfl (fun hC=>Z26_walk (gx4 hC)) ?_;refine G1 7 rfl NB ?_;refine S PA (S As (nil ?_));exact rt hE
def Z70_j5  (s9_6:(Sl Z1)):Option (Sl Z1):=some s9_6
def Z70_j3 (a2:Bool) (a3:Bs)  (s9_4:(Sl Z1)):Option (Sl Z1):=bif a2 then((appC 24 s9_4 (⟨false,[(Z1.mk (7:Int) a3)]⟩:Sl Z1)).bind fun x10=>Z70_j5   x10) else(Z70_j5   s9_4)
def Z70 (a0:Bs) (a1:Bool) (a2:Bool) (a3:Bs):Option (Sl Z1):=guardO (!a1) (Z61 a0) false fun x12=>bif (a1||(!x12)) then((appC 24 (Sl.nil:Sl Z1) (⟨false,[(Z1.mk (6:Int) a3)]⟩:Sl Z1)).bind fun x14=>Z70_j3 a2 a3  x14) else(Z70_j3 a2 a3  (Sl.nil:Sl Z1))
theorem Z70_walk {a0:Bs}{a1 a2:Bool}{a3:Bs}{r:Sl Z1}(hE:Z70 a0 a1 a2 a3=some r) (H:Heap) :ACalls Tryz.prog 68 [.d (.str a0),.d (.bool a1),.d (.bool a2),.d (.str a3)] H fun v h'=>v=.a (.d (Sl.d 2 Z1.c none r))/\h'=H:=by
 unfold Z70 at hE;refine ACalls.oW 28 [.tmp 8] Tryz.call68 Tryz.func68 ?_;refine AWp.tok 2 fun tk1 htk1=>?_;refine seqR ?_;refine s0 (assignNil (k':=2) rfl) rfl ?_;refine nil ?_;refine seqR (S As (nil ?_));refine AWp.nilTok 9 2 tk1 rfl hpG ?_;refine seqJH (TA 2 (TA 3 KeepsT.nil)) (fun(z:(Sl Z1))=>[(9,.a (.d (Sl.d 2 Z1.c (some tk1) z)))]) (fun z=>(H.set tk1 (some (.tok 2 z.l.length)))) (fun z=>Z70_j3 a2 a3 z=some r) ?_ ?_
 ·intro K3 hK3;refine seqR (S Mv (S Mv (G0 Mv ?_)));obtain⟨x12,gx12,hE⟩:=gO hE;refine Gc1 12 rfl rfl rfl rfl rfl (fun hC=>Z61_walk (gx12 hC)) ?_;refine G1 13 rfl NB ?_;refine S PO (nil ?_);refine cE hE (fun hc13 hE=>?_) (fun hc13 hE=>?_)
  ·refine region ?_;refine S Mv (S Mv (S BU (S BV ?_)));obtain⟨x14,gx14,hE⟩:=bO hE;refine SH (am Z1.c (TK rfl) rfl (TK rfl) (TK rfl) gx14) ?_;refine hq (H.set tk1 (some (.tok 2 x14.l.length))) ?_;refine S As (nil ?_);exact hK3 _ x14 Weak.toA hE
  refine AWp.skip ?_;exact hK3 _ (Sl.nil:Sl Z1) Weak.toA hE
 rintro s9_4 hE;try dsimp only at hE
 unfold Z70_j3 at hE;refine seqJH KeepsT.nil (fun(z:(Sl Z1))=>[(9,.a (.d (Sl.d 2 Z1.c (some tk1) z)))]) (fun z=>(H.set tk1 (some (.tok 2 z.l.length)))) (fun z=>Z70_j5 z=some r) ?_ ?_
 ·intro K5 hK5;refine seqR (S Mv (nil ?_));refine cE hE (fun hc9 hE=>?_) (fun hc9 hE=>?_)
  ·refine region ?_;refine S Mv (S Mv (S BU (S BV ?_)));obtain⟨x10,gx10,hE⟩:=bO hE;refine SH (am Z1.c (TK rfl) rfl (TK rfl) (TK rfl) gx10) ?_;refine hq (H.set tk1 (some (.tok 2 x10.l.length))) ?_;refine S As (nil ?_);exact hK5 _ x10 Weak.toA hE
  refine AWp.skip ?_;exact hK5 _ s9_4 Weak.toA hE
 rintro s9_6 hE;try dsimp only at hE
 unfold Z70_j5 at hE;refine seqR (S Mv (S As (nil ?_)));refine AWp.dropTok 8 rfl ?_;refine AWp.ret ?_;repeat (first|refine xBlock_ret ?_|refine xThen_ret ?_)
 obtain rfl:=Option.some.inj hE;refine retQ.retF H rfl ⟨rfl,rfl⟩ ?_
 first|exact Heap.sub_set htk1|(simp only [Heap.set_set]; exact Heap.sub_set htk1)
theorem Z70_tok {a0:Bs}{a1 a2:Bool}{a3:Bs}{r:Sl Z1}(hE:Z70 a0 a1 a2 a3=some r) (H:Heap){tk0:Nat}(htk0:H tk0=some (.tok 2 0)):ACalls Tryz.prog 68 [.d (.str a0),.d (.bool a1),.d (.bool a2),.d (.str a3)] H fun v h'=>v=.a (.d (Sl.d 2 Z1.c (some tk0) r))/\h'=H.set tk0 (some (.tok 2 r.l.length)):=by
 unfold Z70 at hE;refine ACalls.oW 28 [.tmp 8] Tryz.call68 Tryz.func68 ?_;refine AWp.heqA (h':=(H.set tk0 (some (.tok 2 0)))) (by funext n_; simp only [Heap.set]; (repeat' split)<;>simp_all) ?_;refine seqR (S As (nil ?_));refine seqR (S As (nil ?_));refine AWp.nilTok 9 2 tk0 rfl hpG ?_;refine seqJH (TA 2 (TA 3 KeepsT.nil)) (fun(z:(Sl Z1))=>[(9,.a (.d (Sl.d 2 Z1.c (some tk0) z)))]) (fun z=>(H.set tk0 (some (.tok 2 z.l.length)))) (fun z=>Z70_j3 a2 a3 z=some r) ?_ ?_
 ·intro K3 hK3;refine seqR (S Mv (S Mv (G0 Mv ?_)));obtain⟨x12,gx12,hE⟩:=gO hE;refine Gc1 12 rfl rfl rfl rfl rfl (fun hC=>Z61_walk (gx12 hC)) ?_;refine G1 13 rfl NB ?_;refine S PO (nil ?_);refine cE hE (fun hc13 hE=>?_) (fun hc13 hE=>?_)
  ·refine region ?_;refine S Mv (S Mv (S BU (S BV ?_)));obtain⟨x14,gx14,hE⟩:=bO hE;refine SH (am Z1.c (TK rfl) rfl (TK rfl) (TK rfl) gx14) ?_;refine hq (H.set tk0 (some (.tok 2 x14.l.length))) ?_;refine S As (nil ?_);exact hK3 _ x14 Weak.toA hE
  refine AWp.skip ?_;exact hK3 _ (Sl.nil:Sl Z1) Weak.toA hE
 rintro s9_4 hE;try dsimp only at hE
 unfold Z70_j3 at hE;refine seqJH KeepsT.nil (fun(z:(Sl Z1))=>[(9,.a (.d (Sl.d 2 Z1.c (some tk0) z)))]) (fun z=>(H.set tk0 (some (.tok 2 z.l.length)))) (fun z=>Z70_j5 z=some r) ?_ ?_
 ·intro K5 hK5;refine seqR (S Mv (nil ?_));refine cE hE (fun hc9 hE=>?_) (fun hc9 hE=>?_)
  ·refine region ?_;refine S Mv (S Mv (S BU (S BV ?_)));obtain⟨x10,gx10,hE⟩:=bO hE;refine SH (am Z1.c (TK rfl) rfl (TK rfl) (TK rfl) gx10) ?_;refine hq (H.set tk0 (some (.tok 2 x10.l.length))) ?_;refine S As (nil ?_);exact hK5 _ x10 Weak.toA hE
  refine AWp.skip ?_;exact hK5 _ s9_4 Weak.toA hE
 rintro s9_6 hE;try dsimp only at hE
 unfold Z70_j5 at hE;refine seqR (S Mv (S As (nil ?_)));exact rt hE
def Z64_j2  :Option Bool:=some false
def Z64_j10 (a0:TDef)  (s12_11:Bool):Option Bool:=bif s12_11 then(some (decide (((a0.FMembers.l.length:Nat):Int)=(0:Int)))) else(bif (decide (a0.FKind=(5:Int))) then(some (decide (((a0.FInputs.l.length:Nat):Int)=(0:Int)))) else(Z64_j2   ))
def Z64_j5 (a0:TDef)  (s5_6:Bool):Option Bool:=bif s5_6 then(some (decide (((a0.FFields.l.length:Nat):Int)=(0:Int)))) else(bif (decide (a0.FKind=(3:Int))) then(Z64_j10 a0  (decide (a0.FKind=(3:Int)))) else(Z64_j10 a0  (decide (a0.FKind=(4:Int)))))
def Z64 (a0:TDef):Option Bool:=bif (decide (a0.FKind=(1:Int))) then(Z64_j5 a0  (decide (a0.FKind=(1:Int)))) else(Z64_j5 a0  (decide (a0.FKind=(2:Int))))
theorem Z64_walk {a0:TDef}{r:Bool}(hE:Z64 a0=some r) (H:Heap) :ACalls Tryz.prog 69 [.agg (TDef.c a0)] H fun v h'=>v=.a (.d (.bool r))/\h'=H:=by
 unfold Z64 at hE;refine ACalls.oW 25 [.tmp 2] Tryz.call69 Tryz.func69 ?_;refine seqR (S BX (S As (nil ?_)));refine seqJH KeepsT.nil (fun(z:Unit)=>[]) (fun z=>H) (fun z=>Z64_j2 =some r) ?_ ?_
 ·intro K2 hK2;refine seqR (S Fv (S Ld (nil ?_)));refine block ?_;refine seqJH (TA 1 (TA 4 KeepsT.nil)) (fun(z:Bool)=>[(5,.a (.d (.bool z)))]) (fun z=>H) (fun z=>Z64_j5 a0 z=some r) ?_ ?_
  ·intro K5 hK5;refine seqR (S BI (S As (nil ?_)));refine cE hE (fun hc22 hE=>?_) (fun hc22 hE=>?_)
   ·refine AWp.skip ?_;exact hK5 _ (decide (a0.FKind=(1:Int))) Weak.toA hE
   refine region ?_;refine S BI (S As (nil ?_));exact hK5 _ (decide (a0.FKind=(2:Int))) Weak.toA hE
  rintro s5_6 hE;try dsimp only at hE
  unfold Z64_j5 at hE;refine cE hE (fun hc7 hE=>?_) (fun hc7 hE=>?_)
  ·refine seqR (S Fv (S Ld ?_));refine sLen (f:=Z2.c) (s:=a0.FFields) (TK rfl) rfl rfl rfl rfl fun hL9=>?_;refine S BI (S As (nil ?_));exact rt hE
  refine seqJH (TA 1 (TA 4 KeepsT.nil)) (fun(z:Bool)=>[(12,.a (.d (.bool z)))]) (fun z=>H) (fun z=>Z64_j10 a0 z=some r) ?_ ?_
  ·intro K10 hK10;refine seqR (S BI (S As (nil ?_)));refine cE hE (fun hc20 hE=>?_) (fun hc20 hE=>?_)
   ·refine AWp.skip ?_;exact hK10 _ (decide (a0.FKind=(3:Int))) Weak.toA hE
   refine region ?_;refine S BI (S As (nil ?_));exact hK10 _ (decide (a0.FKind=(4:Int))) Weak.toA hE
  rintro s12_11 hE;try dsimp only at hE
  unfold Z64_j10 at hE;refine cE hE (fun hc12 hE=>?_) (fun hc12 hE=>?_)
  ·refine seqR (S Fv (S Ld ?_));refine sLen (f:=Z5.c) (s:=a0.FMembers) (TK rfl) rfl rfl rfl rfl fun hL14=>?_;refine S BI (S As (nil ?_));exact rt hE
  refine seqR (S BI (S As (nil ?_)));refine cE hE (fun hc16 hE=>?_) (fun hc16 hE=>?_)
  ·refine seqR (S Fv (S Ld ?_));refine sLen (f:=Z4.c) (s:=a0.FInputs) (TK rfl) rfl rfl rfl rfl fun hL18=>?_;refine S BI (S As (nil ?_));exact rt hE
  refine AWp.skip ?_;exact hK2 _ () Weak.toA hE
 rintro _ hE;try dsimp only at hE
 unfold Z64_j2 at hE;refine seqR (S As (nil ?_));exact rt hE
def Z54_j2  (y3_l0:TDef):Option (TDef×Bool):=some ((TDef.mk (0:Int) ([]:Bs) (Sl.nil:Sl Bs) (Sl.nil:Sl TDir) (Sl.nil:Sl Z2) (Sl.nil:Sl Z5) (Sl.nil:Sl Z4)),false)
def Z54_l6 (a0:TDoc) (a1:Bs) :Nat->Nat->TDef->Option (TDef×Bool)
 | 0,_,_=>none
 | n6+1,s6_7,y8_l0=>bif (decide (((s6_7:Nat):Int)<((a0.FDefs.l.length:Nat):Int))) then((a0.FDefs.l[s6_7]?).bind fun x15=>bif ((x15.FName==a1)) then((a0.FDefs.l[s6_7]?).bind fun x18=>some (x18,true)) else((Z54_l6 a0 a1 n6) (s6_7+1) y8_l0)) else(Z54_j2   y8_l0)
def Z54 (a0:TDoc) (a1:Bs):Option (TDef×Bool):=Z54_l6 a0 a1 (a0.FDefs.l.length+1) 0 TDef.zero
theorem Z54_walk {a0:TDoc}{a1:Bs}{r:TDef×Bool}(hE:Z54 a0 a1=some r) (H:Heap) :ACalls Tryz.prog 36 [.agg (TDoc.c a0),.d (.str a1)] H fun v h'=>v=.tup [.agg (TDef.c r.1),.d (.bool r.2)]/\h'=H:=by
 unfold Z54 at hE;refine ACalls.oW 28 [.cell 4 82,.tmp 5] Tryz.call36 Tryz.func36 ?_;refine seqR (S BX ?_);refine Sl ?_;refine S As (nil ?_);refine seqJ (TA 4 KeepsT.nil) (fun(z:TDef)=>[]) (fun z=>[TDef.c z]) (fun z=>H) (fun z=>Z54_j2 z=some r) ?_ ?_
 ·intro K2 hK2;refine seqR (S As (nil ?_));refine block ?_;refine loopO (TA 1 (TA 2 (TA 4 KeepsT.nil))) (fun(z:Nat×Nat×TDef)=>[(6,.a (.d (.int .i64 ((z.2.1:Nat):Int))))]) (fun z=>[TDef.c z.2.2]) (fun z=>H) (fun z=>z.1) (fun z=>Z54_l6 a0 a1 z.1 z.2.1 z.2.2=some r) ((a0.FDefs.l.length+1),0,TDef.zero) hE Weak.toA ?_;rintro ⟨n6,s6_7,y8_l0⟩ hE K6 hK6;try dsimp only at hE
  cases n6 with
  | zero=>cases hE
  | succ n6 =>
    rw [Z54_l6] at hE;refine seqK fun K9 hK9=>?_;refine seqR (S Mv (S Fv (S Ld ?_)));refine sLen (f:=TDef.c) (s:=a0.FDefs) (TK rfl) rfl rfl rfl rfl fun hL11=>?_;refine S BI (nil ?_);refine cE hE (fun hc12 hE=>?_) (fun hc12 hE=>?_)
    ·try dsimp only at hc12
     have hf12:=of_decide_eq_true hc12;refine sk hK9 ?_;clear hK9 K9;refine seqK fun K13 hK13=>?_;refine block ?_;refine seqR (S Fv (S Ld (S Mv ?_)));obtain⟨x15,gx15,hE⟩:=bO hE;refine S (ix TDef.c s6_7 gx15) (S Fv (S Ld (S Mv (S BS (nil ?_)))));refine cE hE (fun hc16 hE=>?_) (fun hc16 hE=>?_)
     ·refine seqR (S Fv (S Ld (S Mv ?_)));obtain⟨x18,gx18,hE⟩:=bO hE;refine S (ix TDef.c s6_7 gx18) (S Ld ?_);refine Sf ?_;refine S As (nil ?_);exact rt hE
     refine sk hK13 ?_;clear hK13 K13;refine region ?_;refine S Mv ?_;refine SI ?_;refine S As (nil ?_);exact hK6 _ (n6,(s6_7+1),y8_l0) Weak.toA hE (Nat.lt_succ_self _)
    refine AWp.exit ?_;exact hK2 _ y8_l0 Weak.toA hE
 rintro y3_l0 hE;try dsimp only at hE
 unfold Z54_j2 at hE;refine seqR (S BU ?_);refine Sf ?_;refine S As (nil ?_);exact rt hE
def Z66_j2  :Option Bool:=some false
def Z66_l5 (a0:(Sl Bs)) (a1:Bs) :Nat->Nat->Option Bool
 | 0,_=>none
 | n5+1,s5_6=>bif (decide (((s5_6:Nat):Int)<((a0.l.length:Nat):Int))) then((a0.l[s5_6]?).bind fun x13=>bif ((x13==a1)) then(some true) else((Z66_l5 a0 a1 n5) (s5_6+1))) else(Z66_j2   )
def Z66 (a0:(Sl Bs)) (a1:Bs):Option Bool:=Z66_l5 a0 a1 (a0.l.length+1) 0
theorem Z66_walk {a0:Sl Bs}{a1:Bs}{w0:Option Nat}{r:Bool}(hE:Z66 a0 a1=some r) (H:Heap) :ACalls Tryz.prog 106 [.d (Sl.d 1 strE w0 a0),.d (.str a1)] H fun v h'=>v=.a (.d (.bool r))/\h'=H:=by
 unfold Z66 at hE;refine ACalls.oW 18 [.tmp 4] Tryz.call106 Tryz.func106 ?_;refine seqR (S As (nil ?_));refine seqJH KeepsT.nil (fun(z:Unit)=>[]) (fun z=>H) (fun z=>Z66_j2 =some r) ?_ ?_
 ·intro K2 hK2;refine seqR (S As (nil ?_));refine block ?_;refine loopH (TA 0 (TA 1 KeepsT.nil)) (fun(z:Nat×Nat)=>[(5,.a (.d (.int .i64 ((z.2:Nat):Int))))]) (fun z=>H) (fun z=>z.1) (fun z=>Z66_l5 a0 a1 z.1 z.2=some r) ((a0.l.length+1),0) hE Weak.toA ?_;rintro ⟨n5,s5_6⟩ hE K5 hK5;try dsimp only at hE
  cases n5 with
  | zero=>cases hE
  | succ n5 =>
    rw [Z66_l5] at hE;refine seqK fun K7 hK7=>?_;refine seqR (S Mv (S Mv ?_));refine sLen (f:=strE) (s:=a0) (TK rfl) rfl rfl rfl rfl fun hL9=>?_;refine S BI (nil ?_);refine cE hE (fun hc10 hE=>?_) (fun hc10 hE=>?_)
    ·try dsimp only at hc10
     have hf10:=of_decide_eq_true hc10;refine sk hK7 ?_;clear hK7 K7;refine seqK fun K11 hK11=>?_;refine block ?_;refine seqR (S Mv (S Mv ?_));obtain⟨x13,gx13,hE⟩:=bO hE;refine S (ix strE s5_6 gx13) (S Ld (S Mv (S BS (nil ?_))));refine cE hE (fun hc14 hE=>?_) (fun hc14 hE=>?_)
     ·refine seqR (S As (nil ?_));exact rt hE
     refine sk hK11 ?_;clear hK11 K11;refine region ?_;refine S Mv ?_;refine SI ?_;refine S As (nil ?_);exact hK5 _ (n5,(s5_6+1)) Weak.toA hE (Nat.lt_succ_self _)
    refine AWp.exit ?_;exact hK2 _ () Weak.toA hE
 rintro _ hE;try dsimp only at hE
 unfold Z66_j2 at hE;refine seqR (S As (nil ?_));exact rt hE
def Z63 (a0:TRef):Option Bool:=guardO ((decide (((a0.FWraps.l.length:Nat):Int)=(1:Int)))) (a0.FWraps.l[0]?) (0:Int) fun x4=>some ((decide (((a0.FWraps.l.length:Nat):Int)=(1:Int)))&&(decide (x4=(1:Int))))
theorem Z63_walk {a0:TRef}{r:Bool}(hE:Z63 a0=some r) (H:Heap) :ACalls Tryz.prog 127 [.agg (TRef.c a0)] H fun v h'=>v=.a (.d (.bool r))/\h'=H:=by
 unfold Z63 at hE;refine ACalls.oW 14 [.tmp 2] Tryz.call127 Tryz.func127 ?_;refine seqR (S BX (S As (nil ?_)));refine seqR (S Fv (S Ld ?_));refine sLen (f:=(intE .i64)) (s:=a0.FWraps) (TK rfl) rfl rfl rfl rfl fun hL3=>?_;refine S BI (S Mv (G0 Fv ?_));refine G1 8 rfl Ld ?_;obtain⟨x4,gx4,hE⟩:=gO hE;refine gC rfl rfl (fun hC=>ungdA (k:=9) rfl (idxMn (f:=(intE .i64)) (n:=0) (TK rfl) rfl (TK rfl) rfl rfl rfl (gx4 hC))) rfl ?_
 refine G1 10 rfl Ld ?_;refine G1 11 rfl BI ?_;refine S PA (S As (nil ?_));exact rt hE
def Z71_j2  (s3_3:(Sl Bs)):Option (Sl Bs):=some s3_3
def Z71_j13 (s9_8:Nat) (k_next_6:(Sl Bs)->Nat->Option (Sl Bs)) (s3_14:(Sl Bs)):Option (Sl Bs):=k_next_6 s3_14 (s9_8+1)
def Z71_l6 (a0:TDoc) (a1:TDef) (a2:Bs) :Nat->(Sl Bs)->Nat->Option (Sl Bs)
 | 0,_,_=>none
 | n6+1,s3_7,s9_8=>bif (decide (((s9_8:Nat):Int)<((a1.FInputs.l.length:Nat):Int))) then((a1.FInputs.l[s9_8]?).bind fun x16=>(Z54 a0 x16.FType.FName).bind fun x18=>(Z63 x16.FType).bind fun x20=>guardO ((x20&&(((x16.FType.FName==a2))||(x18.2&&(decide (x18.1.FKind=(5:Int))))))) (Z66 s3_7 x16.FType.FName) false fun x21=>bif ((x20&&(((x16.FType.FName==a2))||(x18.2&&(decide (x18.1.FKind=(5:Int))))))&&(!x21)) then((appC 16 s3_7 (⟨false,[x16.FType.FName]⟩:Sl Bs)).bind fun x23=>Z71_j13 s9_8 ((Z71_l6 a0 a1 a2 n6)) x23) else(Z71_j13 s9_8 ((Z71_l6 a0 a1 a2 n6)) s3_7)) else(Z71_j2   s3_7)
def Z71 (a0:TDoc) (a1:TDef) (a2:Bs) (a3:(Sl Bs)):Option (Sl Bs):=Z71_l6 a0 a1 a2 (a1.FInputs.l.length+1) a3 0
theorem Z71_walk {a0:TDoc}{a1:TDef}{a2:Bs}{a3:Sl Bs}{g3:Nat}{r:Sl Bs}(hE:Z71 a0 a1 a2 a3=some r) (H:Heap) (hg3:H g3=some (.tok 1 a3.l.length)):ACalls Tryz.prog 105 [.agg (TDoc.c a0),.agg (TDef.c a1),.d (.str a2),.d (Sl.d 1 strE (some g3) a3)] H fun v h'=>v=.a (.d (Sl.d 1 strE (some g3) r))/\h'=(H.set g3 (some (.tok 1 r.l.length))):=by
 unfold Z71 at hE;refine ACalls.oW 62 [.tmp 8] Tryz.call105 Tryz.func105 ?_;refine AWp.heqA (h':=(H.set g3 (some (.tok 1 a3.l.length)))) (by funext n_; simp only [Heap.set]; (repeat' split)<;>simp_all) ?_;refine seqR (S BX (S BX (S As (nil ?_))));refine seqJH KeepsT.nil (fun(z:(Sl Bs))=>[(3,.a (.d (Sl.d 1 strE (some g3) z)))]) (fun z=>(H.set g3 (some (.tok 1 z.l.length)))) (fun z=>Z71_j2 z=some r) ?_ ?_
 ·intro K2 hK2;refine seqR (S As (nil ?_));refine block ?_;refine loopH (TA 2 (TA 4 (TA 5 KeepsT.nil))) (fun(z:Nat×(Sl Bs)×Nat)=>[(3,.a (.d (Sl.d 1 strE (some g3) z.2.1))),(9,.a (.d (.int .i64 ((z.2.2:Nat):Int))))]) (fun z=>(H.set g3 (some (.tok 1 z.2.1.l.length)))) (fun z=>z.1) (fun z=>Z71_l6 a0 a1 a2 z.1 z.2.1 z.2.2=some r) ((a1.FInputs.l.length+1),a3,0) hE Weak.toA ?_;rintro ⟨n6,s3_7,s9_8⟩ hE K6 hK6
  try dsimp only at hE
  cases n6 with
  | zero=>cases hE
  | succ n6 =>
    rw [Z71_l6] at hE;refine seqK fun K9 hK9=>?_;refine seqR (S Mv (S Fv (S Ld ?_)));refine sLen (f:=Z4.c) (s:=a1.FInputs) (TK rfl) rfl rfl rfl rfl fun hL11=>?_;refine S BI (nil ?_);refine cE hE (fun hc12 hE=>?_) (fun hc12 hE=>?_)
    ·try dsimp only at hc12
     have hf12:=of_decide_eq_true hc12;refine sk hK9 ?_;clear hK9 K9;refine seqJH (TA 2 (TA 4 (TA 5 (TA 9 KeepsT.nil)))) (fun(z:(Sl Bs))=>[(3,.a (.d (Sl.d 1 strE (some g3) z)))]) (fun z=>(H.set g3 (some (.tok 1 z.l.length)))) (fun z=>Z71_j13 s9_8 ((Z71_l6 a0 a1 a2 n6)) z=some r) ?_ ?_
     ·intro K13 hK13;refine block ?_;refine seqR (S Fv (S Ld (S Mv ?_)));obtain⟨x16,gx16,hE⟩:=bO hE;refine S (ix Z4.c s9_8 gx16) (S Fv (S Ld ?_));refine Sl ?_;refine Sf ?_;refine nil ?_;refine freezeA 10 _ rfl (KA 2 (KA 3 (KA 4 (KA 5 (KA 9 Keeps.nil))))) ?_;refine seqR (S Ld (S Fv (S Ld ?_)));obtain⟨x18,gx18,hE⟩:=bO hE;refine Sc rfl rfl (Z54_walk gx18) ?_;refine S Mv (S EX (S EX ?_));refine Sl ?_;refine Sf ?_
      refine S As (nil ?_);refine freezeA 11 _ rfl (KA 2 (KA 3 (KA 4 (KA 5 (KA 9 (KA 10 (KA 12 Keeps.nil))))))) ?_;refine seqR (S Ld ?_);obtain⟨x20,gx20,hE⟩:=bO hE;refine Sc rfl rfl (Z63_walk gx20) ?_;refine S Mv (G0 Fv ?_);refine G1 36 rfl Ld ?_;refine G0 Mv ?_;refine G2 37 38 rfl rfl BS ?_;refine G1 39 rfl Mv ?_;refine G0 Mv ?_;refine G1 41 rfl Mv ?_;refine G0 Fv ?_;refine G1 43 rfl Ld ?_;refine G1 44 rfl BI ?_
      refine gC rfl rfl (fun hC=>ungdA (k:=42) rfl (pickAndA rfl rfl rfl)) rfl ?_;refine gC rfl rfl (fun hC=>ungdA (k:=40) rfl (pickOrA rfl rfl rfl)) rfl ?_;refine S PA (S Mv (G0 Mv (G0 Fv ?_)));refine G1 51 rfl Ld ?_;obtain⟨x21,gx21,hE⟩:=gO hE;refine Gc2 50 52 rfl rfl rfl rfl rfl rfl (fun hC=>Z66_walk (gx21 hC)) ?_;refine G1 53 rfl NB ?_;refine S PA (nil ?_);refine cE hE (fun hc22 hE=>?_) (fun hc22 hE=>?_)
      ·refine region ?_;refine S Mv (S Fv (S Ld (S BV ?_)));obtain⟨x23,gx23,hE⟩:=bO hE;refine SH (am strE (TK rfl) rfl (TK rfl) (TK rfl) gx23) ?_;refine hq (H.set g3 (some (.tok 1 x23.l.length))) ?_;refine S As (nil ?_);exact hK13 _ x23 Weak.toA hE
      refine AWp.skip ?_;exact hK13 _ s3_7 Weak.toA hE
     rintro s3_14 hE;try dsimp only at hE
     unfold Z71_j13 at hE;refine region ?_;refine S Mv ?_;refine SI ?_;refine S As (nil ?_);exact hK6 _ (n6,s3_14,(s9_8+1)) Weak.toA hE (Nat.lt_succ_self _)
    refine AWp.exit ?_;exact hK2 _ s3_7 Weak.toA hE
 rintro s3_3 hE;try dsimp only at hE
 unfold Z71_j2 at hE;refine seqR (S Mv (S As (nil ?_)));exact rt hE
end Go.Proofs

namespace Go.Proofs
open Go Go.Ab
open AOps Cert AWp Keeps KeepsT
variable {lou:Lou}
def Z62_j8 (a1:TDef)  (s5_9:(Sl Bs)):Option Bool:=(Z66 s5_9 a1.FName).bind fun x11=>some x11
def Z62_l13 (a0:TDoc) (a1:TDef) :Nat->(Sl Bs)->Nat->Option Bool
 | 0,_,_=>none
 | n13+1,s5_14,s6_15=>bif (decide (((s6_15:Nat):Int)<((s5_14.l.length:Nat):Int))) then((s5_14.l[s6_15]?).bind fun x22=>(Z54 a0 x22).bind fun x23=>(Z71 a0 x23.1 a1.FName s5_14).bind fun x24=>(Z62_l13 a0 a1 n13) x24 (s6_15+1)) else(Z62_j8 a1  s5_14)
def Z62 (a0:TDoc) (a1:TDef):Option Bool:=bif (!decide (a1.FKind=(5:Int))) then(some false) else((Z71 a0 a1 a1.FName (Sl.nil:Sl Bs)).bind fun x7=>Z62_l13 a0 a1 F0 x7 0)
theorem Z62_walk {a0:TDoc}{a1:TDef}{r:Bool}(hE:Z62 a0 a1=some r) (H:Heap) :ACalls Tryz.prog 70 [.agg (TDoc.c a0),.agg (TDef.c a1)] H fun v h'=>v=.a (.d (.bool r))/\h'=H:=by
 unfold Z62 at hE;refine ACalls.oW 42 [.tmp 4] Tryz.call70 Tryz.func70 ?_;refine AWp.tok 1 fun tk1 htk1=>?_;refine seqR (S BX (S BX (S As (nil ?_))));refine seqK fun K2 hK2=>?_;refine seqR (S Fv (S Ld (S BI (nil ?_))));refine cE hE (fun hc4 hE=>?_) (fun hc4 hE=>?_)
 ·refine seqR (S As (nil ?_));refine AWp.ret ?_;repeat (first|refine xBlock_ret ?_|refine xThen_ret ?_)
  obtain rfl:=Option.some.inj hE;refine retQ.retF H rfl ⟨rfl,rfl⟩ ?_
  first|exact Heap.sub_set htk1|(simp only [Heap.set_set]; exact Heap.sub_set htk1)
 refine sk hK2 ?_;clear hK2 K2;refine seqR (S Ld (S Ld (S Fv (S Ld ?_))));obtain⟨x7,gx7,hE⟩:=bO hE;refine sH (callH rfl rfl (ACalls.asArgs (.cons (.refl _) (.cons (.refl _) (.cons (.refl _) (.cons (AsArg.nil (k':=1) (t:=tk1) hpG) .nil)))) (Z71_walk gx7 _ hpG))) rfl ?_;refine hq (H.set tk1 (some (.tok 1 x7.l.length))) ?_;refine S As (nil ?_);refine seqJH (TA 3 KeepsT.nil) (fun(z:(Sl Bs))=>[(5,.a (.d (Sl.d 1 strE (some tk1) z)))]) (fun z=>(H.set tk1 (some (.tok 1 z.l.length)))) (fun z=>Z62_j8 a1 z=some r) ?_ ?_
 ·intro K8 hK8;refine seqR (S As (nil ?_));refine block ?_;refine loopH (TA 2 (TA 3 KeepsT.nil)) (fun(z:Nat×(Sl Bs)×Nat)=>[(5,.a (.d (Sl.d 1 strE (some tk1) z.2.1))),(6,.a (.d (.int .i64 ((z.2.2:Nat):Int))))]) (fun z=>(H.set tk1 (some (.tok 1 z.2.1.l.length)))) (fun z=>z.1) (fun z=>Z62_l13 a0 a1 z.1 z.2.1 z.2.2=some r) (F0,x7,0) hE Weak.toA ?_;rintro ⟨n13,s5_14,s6_15⟩ hE K13 hK13;try dsimp only at hE
  cases n13 with
  | zero=>cases hE
  | succ n13 =>
    rw [Z62_l13] at hE;refine seqK fun K16 hK16=>?_;refine seqR (S Mv (S Mv ?_));refine sLen (f:=strE) (s:=s5_14) (TK rfl) rfl rfl rfl rfl fun hL18=>?_;refine S BI (nil ?_);refine cE hE (fun hc19 hE=>?_) (fun hc19 hE=>?_)
    ·try dsimp only at hc19
     have hf19:=of_decide_eq_true hc19;refine sk hK16 ?_;clear hK16 K16;refine seqK fun K20 hK20=>?_;refine block ?_;refine AWp.seqD (Sd Ld (Sd Mv (Sd Mv ?_)));obtain⟨x22,gx22,hE⟩:=bO hE;refine Sd (ix strE s6_15 gx22) (Sd Ld ?_);obtain⟨x23,gx23,hE⟩:=bO hE;refine Scd rfl rfl (Z54_walk gx23) ?_;refine Sd Mv (Sd EX (Sd EX ?_));refine DOps.sB (TK rfl) rfl rfl ?_ (by repeat (first|exact Snoc.nil|apply Snoc.cons))
     refine DOps.sLn (storeLFA (TK rfl) rfl rfl rfl rfl rfl) ?_;refine Sd As ?_;refine DOps.nil (by decide +kernel) ?_;refine freezeA 7 _ rfl (KA 2 (KA 3 (KA 5 (KA 6 Keeps.nil)))) ?_;refine region ?_;refine S Ld (S Ld (S Fv (S Ld (S Mv ?_))));obtain⟨x24,gx24,hE⟩:=bO hE;refine sH (callH rfl rfl (Z71_walk gx24 _ hpG)) rfl ?_;refine hq (H.set tk1 (some (.tok 1 x24.l.length))) ?_;refine S As (nil ?_);refine hK20 _ ?_
     clear hK20 K20;refine region ?_;refine S Mv ?_;refine SI ?_;refine S As (nil ?_);exact hK13 _ (n13,x24,(s6_15+1)) Weak.toA hE (Nat.lt_succ_self _)
    refine AWp.exit ?_;exact hK8 _ s5_14 Weak.toA hE
 rintro s5_9 hE;try dsimp only at hE
 unfold Z62_j8 at hE;refine seqR (S Mv (S Fv (S Ld ?_)));obtain⟨x11,gx11,hE⟩:=bO hE;refine Sc rfl rfl (Z66_walk gx11) ?_;refine S As (nil ?_);refine AWp.ret ?_;repeat (first|refine xBlock_ret ?_|refine xThen_ret ?_)
 obtain rfl:=Option.some.inj hE;refine retQ.retF H rfl ⟨rfl,rfl⟩ ?_
 first|exact Heap.sub_set htk1|(simp only [Heap.set_set]; exact Heap.sub_set htk1)
def Z72_j15  (s8_16:(Sl Z1)):Option (Sl Z1):=some s8_16
def Z72_j13 (a0:TDoc) (x3:TDef)  (s8_14:(Sl Z1)):Option (Sl Z1):=(Z62 a0 x3).bind fun x19=>bif x19 then((appC 24 s8_14 (⟨false,[(Z1.mk (5:Int) x3.FName)]⟩:Sl Z1)).bind fun x21=>Z72_j15   x21) else(Z72_j15   s8_14)
def Z72_j10 (a0:TDoc) (x3:TDef)  (s8_11:(Sl Z1)):Option (Sl Z1):=bif (((((((x3.FName==([81,117,101,114,121]:Bs)))||((x3.FName==([77,117,116,97,116,105,111,110]:Bs))))||((x3.FName==([83,117,98,115,99,114,105,112,116,105,111,110]:Bs))))&&(!decide (x3.FKind=(1:Int))))||(decide (x3.FKind<(1:Int))))||(decide ((5:Int)<x3.FKind))) then((appC 24 s8_11 (⟨false,[(Z1.mk (9:Int) x3.FName)]⟩:Sl Z1)).bind fun x24=>Z72_j13 a0 x3  x24) else(Z72_j13 a0 x3  s8_11)
def Z72_j6 (a0:TDoc) (x3:TDef)  (s6_7:Bool):Option (Sl Z1):=(Z70 x3.FName false s6_7 x3.FName).bind fun x9=>(Z64 x3).bind fun x26=>bif x26 then((appC 24 x9 (⟨false,[(Z1.mk (8:Int) x3.FName)]⟩:Sl Z1)).bind fun x28=>Z72_j10 a0 x3  x28) else(Z72_j10 a0 x3  x9)
def Z72_l30 (a0:TDoc) (a1:Int) (x3:TDef) :Nat->Bool->Int->Option (Sl Z1)
 | 0,_,_=>none
 | n30+1,s6_31,s7_32=>bif (decide (s7_32<a1)) then(guardO (!s6_31) (idxC a0.FDefs.l s7_32) TDef.zero fun x37=>(addC s7_32 (1:Int)).bind fun x38=>(Z72_l30 a0 a1 x3 n30) (s6_31||((x37.FName==x3.FName))) x38) else(Z72_j6 a0 x3  s6_31)
def Z72 (a0:TDoc) (a1:Int):Option (Sl Z1):=(idxC a0.FDefs.l a1).bind fun x3=>(Z60 x3.FName).bind fun x5=>Z72_l30 a0 a1 x3 F0 x5 (0:Int)
theorem Z72_walk {a0:TDoc}{a1:Int}{r:Sl Z1}(hE:Z72 a0 a1=some r) (H:Heap) :ACalls Tryz.prog 32 [.agg (TDoc.c a0),.d (.int .i64 a1)] H fun v h'=>v=.a (.d (Sl.d 2 Z1.c none r))/\h'=H:=by
 unfold Z72 at hE;refine ACalls.oW 94 [.tmp 4] Tryz.call32 Tryz.func32 ?_;refine seqR (S BX ?_);refine s0 (assignNil (k':=2) rfl) rfl ?_;refine nil ?_;refine seqR (S Fv (S Ld (S Mv ?_)));obtain⟨x3,gx3,hE⟩:=bO hE;refine s0 (idxM (f:=TDef.c) (TK rfl) rfl (TK rfl) rfl rfl rfl gx3) rfl ?_;refine S Ld ?_;refine Sl ?_;refine Sf ?_;refine nil ?_;refine freezeA 5 _ rfl (KA 1 (KA 2 Keeps.nil)) ?_;refine seqR (S Fv (S Ld ?_))
 obtain⟨x5,gx5,hE⟩:=bO hE;refine Sc rfl rfl (Z60_walk gx5) ?_;refine S As (nil ?_);refine seqJH (TA 2 (TA 5 KeepsT.nil)) (fun(z:Bool)=>[(6,.a (.d (.bool z)))]) (fun z=>H) (fun z=>Z72_j6 a0 x3 z=some r) ?_ ?_
 ·intro K6 hK6;refine seqR (S As (nil ?_));refine block ?_;refine loopH (TA 1 (TA 2 (TA 5 KeepsT.nil))) (fun(z:Nat×Bool×Int)=>[(6,.a (.d (.bool z.2.1))),(7,.a (.d (.int .i64 z.2.2)))]) (fun z=>H) (fun z=>z.1) (fun z=>Z72_l30 a0 a1 x3 z.1 z.2.1 z.2.2=some r) (F0,x5,(0:Int)) hE Weak.toA ?_;rintro ⟨n30,s6_31,s7_32⟩ hE K30 hK30;try dsimp only at hE
  cases n30 with
  | zero=>cases hE
  | succ n30 =>
    rw [Z72_l30] at hE;refine seqK fun K33 hK33=>?_;refine seqR (S Mv (S Mv (S BI (nil ?_))));refine cE hE (fun hc35 hE=>?_) (fun hc35 hE=>?_)
    ·refine sk hK33 ?_;clear hK33 K33;refine seqK fun K36 hK36=>?_;refine block ?_;refine AWp.draw rfl ?_;refine Sd Mv (Sd Mv (G0d Fv ?_));refine G1d 25 rfl Ld ?_;refine G0d Mv ?_;obtain⟨x37,gx37,hE⟩:=gO hE;refine DOps.gC rfl rfl (fun hC=>ungdA (k:=26) rfl (ungdA (k:=27) rfl (idxM (f:=TDef.c) (TK rfl) rfl (TK rfl) rfl rfl rfl (gx37 hC)))) rfl ?_;refine G1d 28 rfl Fv ?_;refine G1d 29 rfl Ld ?_;refine G0d Fv ?_
     refine G1d 31 rfl Ld ?_;refine G2d 30 32 rfl rfl BS ?_;refine Sd PO (Sd As ?_);refine DOps.nil (by decide +kernel) ?_;refine hK36 _ ?_;clear hK36 K36;refine region ?_;refine S Mv ?_;obtain⟨x38,gx38,hE⟩:=bO hE;refine s0 (addM rfl rfl gx38) rfl ?_;refine S As (nil ?_);exact hK30 _ (n30,(s6_31||((x37.FName==x3.FName))),x38) Weak.toA hE (Nat.lt_succ_self _)
    refine AWp.exit ?_;exact hK6 _ s6_31 Weak.toA hE
 rintro s6_7 hE;try dsimp only at hE
 unfold Z72_j6 at hE;refine AWp.tok 2 fun tk1 htk1=>?_;refine seqR (S Fv (S Ld (S Mv (S Fv (S Ld ?_)))));obtain⟨x9,gx9,hE⟩:=bO hE;refine sH (callH rfl rfl (Z70_tok gx9 _ hpG)) rfl ?_;refine hq (H.set tk1 (some (.tok 2 x9.l.length))) ?_;refine S As (nil ?_);refine seqJH (TA 2 (TA 5 KeepsT.nil)) (fun(z:(Sl Z1))=>[(8,.a (.d (Sl.d 2 Z1.c (some tk1) z)))]) (fun z=>(H.set tk1 (some (.tok 2 z.l.length)))) (fun z=>Z72_j10 a0 x3 z=some r) ?_ ?_
 ·intro K10 hK10;refine seqR (S Ld ?_);obtain⟨x26,gx26,hE⟩:=bO hE;refine Sc rfl rfl (Z64_walk gx26) ?_;refine nil ?_;refine cE hE (fun hc27 hE=>?_) (fun hc27 hE=>?_)
  ·refine region ?_;refine S Mv (S Fv (S Ld (S BU (S BV ?_))));obtain⟨x28,gx28,hE⟩:=bO hE;refine SH (am Z1.c (TK rfl) rfl (TK rfl) (TK rfl) gx28) ?_;refine hq (H.set tk1 (some (.tok 2 x28.l.length))) ?_;refine S As (nil ?_);exact hK10 _ x28 Weak.toA hE
  refine AWp.skip ?_;exact hK10 _ x9 Weak.toA hE
 rintro s8_11 hE;try dsimp only at hE
 unfold Z72_j10 at hE;refine seqR (S Fv (S Ld (S BS (S Mv (G0 Fv ?_)))));refine G1 53 rfl Ld ?_;refine G1 54 rfl BS ?_;refine S PO (S Mv (G0 Fv ?_));refine G1 58 rfl Ld ?_;refine G1 59 rfl BS ?_;refine S PO (S As (nil ?_));refine seqJH (TA 2 (TA 5 KeepsT.nil)) (fun(z:(Sl Z1))=>[(8,.a (.d (Sl.d 2 Z1.c (some tk1) z)))]) (fun z=>(H.set tk1 (some (.tok 2 z.l.length)))) (fun z=>Z72_j13 a0 x3 z=some r) ?_ ?_
 ·intro K13 hK13;refine seqR (S Mv (S Mv (G0 Fv ?_)));refine G1 64 rfl Ld ?_;refine G1 65 rfl BI ?_;refine S PA (S Mv (G0 Fv ?_));refine G1 69 rfl Ld ?_;refine G1 70 rfl BI ?_;refine S PO (S Mv (G0 Fv ?_));refine G1 74 rfl Ld ?_;refine G1 75 rfl BI ?_;refine S PO (nil ?_);refine cE hE (fun hc23 hE=>?_) (fun hc23 hE=>?_)
  ·refine region ?_;refine S Mv (S Fv (S Ld (S BU (S BV ?_))));obtain⟨x24,gx24,hE⟩:=bO hE;refine SH (am Z1.c (TK rfl) rfl (TK rfl) (TK rfl) gx24) ?_;refine hq (H.set tk1 (some (.tok 2 x24.l.length))) ?_;refine S As (nil ?_);exact hK13 _ x24 Weak.toA hE
  refine AWp.skip ?_;exact hK13 _ s8_11 Weak.toA hE
 rintro s8_14 hE;try dsimp only at hE
 unfold Z72_j13 at hE;refine seqJH KeepsT.nil (fun(z:(Sl Z1))=>[(8,.a (.d (Sl.d 2 Z1.c (some tk1) z)))]) (fun z=>(H.set tk1 (some (.tok 2 z.l.length)))) (fun z=>Z72_j15 z=some r) ?_ ?_
 ·intro K15 hK15;refine seqR (S Ld (S Ld ?_));obtain⟨x19,gx19,hE⟩:=bO hE;refine Sc rfl rfl (Z62_walk gx19) ?_;refine nil ?_;refine cE hE (fun hc20 hE=>?_) (fun hc20 hE=>?_)
  ·refine region ?_;refine S Mv (S Fv (S Ld (S BU (S BV ?_))));obtain⟨x21,gx21,hE⟩:=bO hE;refine SH (am Z1.c (TK rfl) rfl (TK rfl) (TK rfl) gx21) ?_;refine hq (H.set tk1 (some (.tok 2 x21.l.length))) ?_;refine S As (nil ?_);exact hK15 _ x21 Weak.toA hE
  refine AWp.skip ?_;exact hK15 _ s8_14 Weak.toA hE
 rintro s8_16 hE;try dsimp only at hE
 unfold Z72_j15 at hE;refine seqR (S Mv (S As (nil ?_)));refine AWp.dropTok 4 rfl ?_;refine AWp.ret ?_;repeat (first|refine xBlock_ret ?_|refine xThen_ret ?_)
 obtain rfl:=Option.some.inj hE;refine retQ.retF H rfl ⟨rfl,rfl⟩ ?_
 first|exact Heap.sub_set htk1|(simp only [Heap.set_set]; exact Heap.sub_set htk1)
def Z68 (a0:TDoc) (a1:Bs):Option Bool:=(Z54 a0 a1).bind fun x3=>(Z60 a1).bind fun x5=>some (x5||x3.2)
theorem Z68_walk {a0:TDoc}{a1:Bs}{r:Bool}(hE:Z68 a0 a1=some r) (H:Heap) :ACalls Tryz.prog 72 [.agg (TDoc.c a0),.d (.str a1)] H fun v h'=>v=.a (.d (.bool r))/\h'=H:=by
 unfold Z68 at hE;refine ACalls.oW 18 [.tmp 4] Tryz.call72 Tryz.func72 ?_;refine seqR (S BX (S As (nil ?_)));refine seqR (S Ld (S Mv ?_));obtain⟨x3,gx3,hE⟩:=bO hE;refine Sc rfl rfl (Z54_walk gx3) ?_;refine S Mv (S EX (S EX ?_));refine Sl ?_;refine Sf ?_;refine S As (nil ?_);refine freezeA 5 _ rfl (KA 1 (KA 6 Keeps.nil)) ?_;refine seqR (S Mv ?_);obtain⟨x5,gx5,hE⟩:=bO hE;refine Sc rfl rfl (Z60_walk gx5) ?_
 refine S Mv (G0 Mv (S PO (S As (nil ?_))));exact rt hE
def Z55_j2  (y3_l0:Z4):Option (Z4×Bool):=some ((Z4.mk ([]:Bs) TRef.zero false Z7.zero (Sl.nil:Sl TDir)),false)
def Z55_l6 (a0:(Sl Z4)) (a1:Bs) :Nat->Nat->Z4->Option (Z4×Bool)
 | 0,_,_=>none
 | n6+1,s6_7,y8_l0=>bif (decide (((s6_7:Nat):Int)<((a0.l.length:Nat):Int))) then((a0.l[s6_7]?).bind fun x15=>bif ((x15.FName==a1)) then((a0.l[s6_7]?).bind fun x18=>some (x18,true)) else((Z55_l6 a0 a1 n6) (s6_7+1) y8_l0)) else(Z55_j2   y8_l0)
def Z55 (a0:(Sl Z4)) (a1:Bs):Option (Z4×Bool):=Z55_l6 a0 a1 (a0.l.length+1) 0 Z4.zero
theorem Z55_walk {a0:Sl Z4}{a1:Bs}{w0:Option Nat}{r:Z4×Bool}(hE:Z55 a0 a1=some r) (H:Heap) :ACalls Tryz.prog 73 [.d (Sl.d 10 Z4.c w0 a0),.d (.str a1)] H fun v h'=>v=.tup [.agg (Z4.c r.1),.d (.bool r.2)]/\h'=H:=by
 unfold Z55 at hE;refine ACalls.oW 25 [.cell 4 75,.tmp 5] Tryz.call73 Tryz.func73 ?_;refine seqR ?_;refine Sl ?_;refine S As (nil ?_);refine seqJ (TA 4 KeepsT.nil) (fun(z:Z4)=>[]) (fun z=>[Z4.c z]) (fun z=>H) (fun z=>Z55_j2 z=some r) ?_ ?_
 ·intro K2 hK2;refine seqR (S As (nil ?_));refine block ?_;refine loopO (TA 0 (TA 1 (TA 4 KeepsT.nil))) (fun(z:Nat×Nat×Z4)=>[(6,.a (.d (.int .i64 ((z.2.1:Nat):Int))))]) (fun z=>[Z4.c z.2.2]) (fun z=>H) (fun z=>z.1) (fun z=>Z55_l6 a0 a1 z.1 z.2.1 z.2.2=some r) ((a0.l.length+1),0,Z4.zero) hE Weak.toA ?_;rintro ⟨n6,s6_7,y8_l0⟩ hE K6 hK6;try dsimp only at hE
  cases n6 with
  | zero=>cases hE
  | succ n6 =>
    rw [Z55_l6] at hE;refine seqK fun K9 hK9=>?_;refine seqR (S Mv (S Mv ?_));refine sLen (f:=Z4.c) (s:=a0) (TK rfl) rfl rfl rfl rfl fun hL11=>?_;refine S BI (nil ?_);refine cE hE (fun hc12 hE=>?_) (fun hc12 hE=>?_)
    ·try dsimp only at hc12
     have hf12:=of_decide_eq_true hc12;refine sk hK9 ?_;clear hK9 K9;refine seqK fun K13 hK13=>?_;refine block ?_;refine seqR (S Mv (S Mv ?_));obtain⟨x15,gx15,hE⟩:=bO hE;refine S (ix Z4.c s6_7 gx15) (S Fv (S Ld (S Mv (S BS (nil ?_)))));refine cE hE (fun hc16 hE=>?_) (fun hc16 hE=>?_)
     ·refine seqR (S Mv (S Mv ?_));obtain⟨x18,gx18,hE⟩:=bO hE;refine S (ix Z4.c s6_7 gx18) (S Ld ?_);refine Sf ?_;refine S As (nil ?_);exact rt hE
     refine sk hK13 ?_;clear hK13 K13;refine region ?_;refine S Mv ?_;refine SI ?_;refine S As (nil ?_);exact hK6 _ (n6,(s6_7+1),y8_l0) Weak.toA hE (Nat.lt_succ_self _)
    refine AWp.exit ?_;exact hK2 _ y8_l0 Weak.toA hE
 rintro y3_l0 hE;try dsimp only at hE
 unfold Z55_j2 at hE;refine seqR (S BU ?_);refine Sf ?_;refine S As (nil ?_);exact rt hE
def Z58 (a0:TDoc) (a1:Bs):Option Bool:=(Z54 a0 a1).bind fun x3=>(Z60 a1).bind fun x5=>some (x5||(x3.2&&(decide (x3.1.FKind=(4:Int)))))
theorem Z58_walk {a0:TDoc}{a1:Bs}{r:Bool}(hE:Z58 a0 a1=some r) (H:Heap) :ACalls Tryz.prog 107 [.agg (TDoc.c a0),.d (.str a1)] H fun v h'=>v=.a (.d (.bool r))/\h'=H:=by
 unfold Z58 at hE;refine ACalls.oW 23 [.tmp 4] Tryz.call107 Tryz.func107 ?_;refine seqR (S BX (S As (nil ?_)));refine seqR (S Ld (S Mv ?_));obtain⟨x3,gx3,hE⟩:=bO hE;refine Sc rfl rfl (Z54_walk gx3) ?_;refine S Mv (S EX (S EX ?_));refine Sl ?_;refine Sf ?_;refine S As (nil ?_);refine freezeA 5 _ rfl (KA 1 (KA 6 Keeps.nil)) ?_;refine seqR (S Mv ?_);obtain⟨x5,gx5,hE⟩:=bO hE;refine Sc rfl rfl (Z60_walk gx5) ?_
 refine S Mv (G0 Mv ?_);refine G1 16 rfl Mv ?_;refine G0 Fv ?_;refine G1 18 rfl Ld ?_;refine G1 19 rfl BI ?_;refine gC rfl rfl (fun hC=>ungdA (k:=17) rfl (pickAndA rfl rfl rfl)) rfl ?_;refine S PO (S As (nil ?_));exact rt hE
def Z56 (a0:TDoc) (a1:Bs):Option Bool:=(Z54 a0 a1).bind fun x3=>(Z58 a0 a1).bind fun x5=>some (x5||(x3.2&&(decide (x3.1.FKind=(5:Int)))))
theorem Z56_walk {a0:TDoc}{a1:Bs}{r:Bool}(hE:Z56 a0 a1=some r) (H:Heap) :ACalls Tryz.prog 74 [.agg (TDoc.c a0),.d (.str a1)] H fun v h'=>v=.a (.d (.bool r))/\h'=H:=by
 unfold Z56 at hE;refine ACalls.oW 24 [.tmp 4] Tryz.call74 Tryz.func74 ?_;refine seqR (S BX (S As (nil ?_)));refine seqR (S Ld (S Mv ?_));obtain⟨x3,gx3,hE⟩:=bO hE;refine Sc rfl rfl (Z54_walk gx3) ?_;refine S Mv (S EX (S EX ?_));refine Sl ?_;refine Sf ?_;refine S As (nil ?_);refine freezeA 5 _ rfl (KA 1 (KA 2 (KA 6 Keeps.nil))) ?_;refine seqR (S Ld (S Mv ?_));obtain⟨x5,gx5,hE⟩:=bO hE;refine Sc rfl rfl (Z58_walk gx5) ?_
 refine S Mv (G0 Mv ?_);refine G1 17 rfl Mv ?_;refine G0 Fv ?_;refine G1 19 rfl Ld ?_;refine G1 20 rfl BI ?_;refine gC rfl rfl (fun hC=>ungdA (k:=18) rfl (pickAndA rfl rfl rfl)) rfl ?_;refine S PO (S As (nil ?_));exact rt hE
def Z67_j3  (s9_4:(Sl Z1)):Option (Sl Z1):=some s9_4
def Z67_j14 (s10_9:Nat) (k_next_7:(Sl Z1)->Nat->Option (Sl Z1)) (s9_15:(Sl Z1)):Option (Sl Z1):=k_next_7 s9_15 (s10_9+1)
def Z67_l7 (a0:TDoc) (a1:(Sl Z4)) (a2:Bs) (a3:Bs) :Nat->(Sl Z1)->Nat->Option (Sl Z1)
 | 0,_,_=>none
 | n7+1,s9_8,s10_9=>bif (decide (((s10_9:Nat):Int)<((a1.l.length:Nat):Int))) then((a1.l[s10_9]?).bind fun x17=>(catC a2 x17.FName).bind fun x18=>(catC x18 a3).bind fun x19=>(partC a1 none (some ((s10_9:Nat):Int))).bind fun x21=>(a1.l[s10_9]?).bind fun x22=>(Z55 x21 x22.FName).bind fun x23=>(a1.l[s10_9]?).bind fun x25=>(Z70 x25.FName false x23.2 x19).bind fun x26=>(appC 24 s9_8 x26).bind fun x27=>(a1.l[s10_9]?).bind fun x29=>(Z68 a0 x29.FType.FName).bind fun x30=>bif (!x30) then((appC 24 x27 (⟨false,[(Z1.mk (8:Int) x19)]⟩:Sl Z1)).bind fun x32=>Z67_j14 s10_9 ((Z67_l7 a0 a1 a2 a3 n7)) x32) else((a1.l[s10_9]?).bind fun x34=>(Z56 a0 x34.FType.FName).bind fun x35=>bif (!x35) then((appC 24 x27 (⟨false,[(Z1.mk (10:Int) x19)]⟩:Sl Z1)).bind fun x37=>Z67_j14 s10_9 ((Z67_l7 a0 a1 a2 a3 n7)) x37) else(Z67_j14 s10_9 ((Z67_l7 a0 a1 a2 a3 n7)) x27))) else(Z67_j3   s9_8)
def Z67 (a0:TDoc) (a1:(Sl Z4)) (a2:Bs) (a3:Bs):Option (Sl Z1):=Z67_l7 a0 a1 a2 a3 (a1.l.length+1) (Sl.nil:Sl Z1) 0
theorem Z67_walk {a0:TDoc}{a1:Sl Z4}{a2 a3:Bs}{w1:Option Nat}{r:Sl Z1}(hE:Z67 a0 a1 a2 a3=some r) (H:Heap) :ACalls Tryz.prog 35 [.agg (TDoc.c a0),.d (Sl.d 10 Z4.c w1 a1),.d (.str a2),.d (.str a3)] H fun v h'=>v=.a (.d (Sl.d 2 Z1.c none r))/\h'=H:=by
 unfold Z67 at hE;refine ACalls.oW 80 [.tmp 8] Tryz.call35 Tryz.func35 ?_;refine AWp.tok 2 fun tk1 htk1=>?_;refine seqR (S BX ?_);refine s0 (assignNil (k':=2) rfl) rfl ?_;refine nil ?_;refine seqR (S As (nil ?_));refine AWp.nilTok 9 2 tk1 rfl hpG ?_;refine seqJH KeepsT.nil (fun(z:(Sl Z1))=>[(9,.a (.d (Sl.d 2 Z1.c (some tk1) z)))]) (fun z=>(H.set tk1 (some (.tok 2 z.l.length)))) (fun z=>Z67_j3 z=some r) ?_ ?_
 ·intro K3 hK3;refine seqR (S As (nil ?_));refine block ?_;refine loopH (TA 1 (TA 2 (TA 3 (TA 4 KeepsT.nil)))) (fun(z:Nat×(Sl Z1)×Nat)=>[(9,.a (.d (Sl.d 2 Z1.c (some tk1) z.2.1))),(10,.a (.d (.int .i64 ((z.2.2:Nat):Int))))]) (fun z=>(H.set tk1 (some (.tok 2 z.2.1.l.length)))) (fun z=>z.1) (fun z=>Z67_l7 a0 a1 a2 a3 z.1 z.2.1 z.2.2=some r) ((a1.l.length+1),(Sl.nil:Sl Z1),0) hE Weak.toA ?_;rintro ⟨n7,s9_8,s10_9⟩ hE K7 hK7
  try dsimp only at hE
  cases n7 with
  | zero=>cases hE
  | succ n7 =>
    rw [Z67_l7] at hE;refine seqK fun K10 hK10=>?_;refine seqR (S Mv (S Mv ?_));refine sLen (f:=Z4.c) (s:=a1) (TK rfl) rfl rfl rfl rfl fun hL12=>?_;refine S BI (nil ?_);refine cE hE (fun hc13 hE=>?_) (fun hc13 hE=>?_)
    ·try dsimp only at hc13
     have hf13:=of_decide_eq_true hc13;refine sk hK10 ?_;clear hK10 K10;refine seqJH (TA 1 (TA 2 (TA 3 (TA 4 (TA 10 KeepsT.nil))))) (fun(z:(Sl Z1))=>[(9,.a (.d (Sl.d 2 Z1.c (some tk1) z)))]) (fun z=>(H.set tk1 (some (.tok 2 z.l.length)))) (fun z=>Z67_j14 s10_9 ((Z67_l7 a0 a1 a2 a3 n7)) z=some r) ?_ ?_
     ·intro K14 hK14;refine block ?_;refine seqR (S Mv (S Mv (S Mv ?_)));obtain⟨x17,gx17,hE⟩:=bO hE;refine S (ix Z4.c s10_9 gx17) (S Fv (S Ld ?_));obtain⟨x18,gx18,hE⟩:=bO hE;refine s0 (catM rfl rfl gx18) rfl ?_;refine S Mv ?_;obtain⟨x19,gx19,hE⟩:=bO hE;refine s0 (catM rfl rfl gx19) rfl ?_;refine S As (nil ?_);refine AWp.seqD (Sd Mv (Sd Mv ?_));obtain⟨x21,gx21,hE⟩:=bO hE;refine DOps.s0 (partM (f:=Z4.c) (l:=none) (r:=(some ((s10_9:Nat):Int))) (TK rfl) rfl (TK rfl) rfl rfl trivial rfl gx21) rfl ?_
      refine Sd Mv (Sd Mv ?_);obtain⟨x22,gx22,hE⟩:=bO hE;refine Sd (ix Z4.c s10_9 gx22) (Sd Fv (Sd Ld ?_));obtain⟨x23,gx23,hE⟩:=bO hE;refine Scd rfl rfl (Z55_walk gx23) ?_;refine Sd Mv (Sd EX (Sd EX ?_));refine DOps.sB (TK rfl) rfl rfl ?_ (by repeat (first|exact Snoc.nil|apply Snoc.cons));refine DOps.sLn (storeLFA (TK rfl) rfl rfl rfl rfl rfl) ?_;refine Sd As ?_;refine DOps.nil (by decide +kernel) ?_
      refine freezeA 12 _ rfl (KA 1 (KA 2 (KA 3 (KA 4 (KA 9 (KA 10 (KA 11 (KA 13 Keeps.nil)))))))) ?_;refine seqR (S Mv (S Mv (S Mv ?_)));obtain⟨x25,gx25,hE⟩:=bO hE;refine S (ix Z4.c s10_9 gx25) (S Fv (S Ld (S Mv (S Mv ?_))));obtain⟨x26,gx26,hE⟩:=bO hE;refine Sc rfl rfl (Z70_walk gx26) ?_;obtain⟨x27,gx27,hE⟩:=bO hE;refine SH (am Z1.c (TK rfl) rfl (TK rfl) (TK rfl) gx27) ?_;refine hq (H.set tk1 (some (.tok 2 x27.l.length))) ?_
      refine S As (nil ?_);refine AWp.seqD (Sd Ld (Sd Mv (Sd Mv ?_)));obtain⟨x29,gx29,hE⟩:=bO hE;refine Sd (ix Z4.c s10_9 gx29) (Sd Fv (Sd Fv (Sd Ld ?_)));obtain⟨x30,gx30,hE⟩:=bO hE;refine Scd rfl rfl (Z68_walk gx30) ?_;refine Sd NB ?_;refine DOps.nil (by decide +kernel) ?_;refine cE hE (fun hc31 hE=>?_) (fun hc31 hE=>?_)
      ·refine region ?_;refine S Mv (S Mv (S BU (S BV ?_)));obtain⟨x32,gx32,hE⟩:=bO hE;refine SH (am Z1.c (TK rfl) rfl (TK rfl) (TK rfl) gx32) ?_;refine hq (H.set tk1 (some (.tok 2 x32.l.length))) ?_;refine S As (nil ?_);exact hK14 _ x32 Weak.toA hE
      refine AWp.seqD (Sd Ld (Sd Mv (Sd Mv ?_)));obtain⟨x34,gx34,hE⟩:=bO hE;refine Sd (ix Z4.c s10_9 gx34) (Sd Fv (Sd Fv (Sd Ld ?_)));obtain⟨x35,gx35,hE⟩:=bO hE;refine Scd rfl rfl (Z56_walk gx35) ?_;refine Sd NB ?_;refine DOps.nil (by decide +kernel) ?_;refine cE hE (fun hc36 hE=>?_) (fun hc36 hE=>?_)
      ·refine region ?_;refine S Mv (S Mv (S BU (S BV ?_)));obtain⟨x37,gx37,hE⟩:=bO hE;refine SH (am Z1.c (TK rfl) rfl (TK rfl) (TK rfl) gx37) ?_;refine hq (H.set tk1 (some (.tok 2 x37.l.length))) ?_;refine S As (nil ?_);exact hK14 _ x37 Weak.toA hE
      refine AWp.skip ?_;exact hK14 _ x27 Weak.toA hE
     rintro s9_15 hE;try dsimp only at hE
     unfold Z67_j14 at hE;refine region ?_;refine S Mv ?_;refine SI ?_;refine S As (nil ?_);exact hK7 _ (n7,s9_15,(s10_9+1)) Weak.toA hE (Nat.lt_succ_self _)
    refine AWp.exit ?_;exact hK3 _ s9_8 Weak.toA hE
 rintro s9_4 hE;try dsimp only at hE
 unfold Z67_j3 at hE;refine seqR (S Mv (S As (nil ?_)));refine AWp.dropTok 8 rfl ?_;refine AWp.ret ?_;repeat (first|refine xBlock_ret ?_|refine xThen_ret ?_)
 obtain rfl:=Option.some.inj hE;refine retQ.retF H rfl ⟨rfl,rfl⟩ ?_
 first|exact Heap.sub_set htk1|(simp only [Heap.set_set]; exact Heap.sub_set htk1)
end Go.Proofs

namespace Go.Proofs
open Go Go.Ab
open AOps Cert AWp Keeps KeepsT
variable {lou:Lou}
def Z53_j2  (y3_l0:Z2):Option (Z2×Bool):=some ((Z2.mk ([]:Bs) (Sl.nil:Sl Z4) TRef.zero (Sl.nil:Sl TDir)),false)
def Z53_l6 (a0:TDef) (a1:Bs) :Nat->Nat->Z2->Option (Z2×Bool)
 | 0,_,_=>none
 | n6+1,s6_7,y8_l0=>bif (decide (((s6_7:Nat):Int)<((a0.FFields.l.length:Nat):Int))) then((a0.FFields.l[s6_7]?).bind fun x15=>bif ((x15.FName==a1)) then((a0.FFields.l[s6_7]?).bind fun x18=>some (x18,true)) else((Z53_l6 a0 a1 n6) (s6_7+1) y8_l0)) else(Z53_j2   y8_l0)
def Z53 (a0:TDef) (a1:Bs):Option (Z2×Bool):=Z53_l6 a0 a1 (a0.FFields.l.length+1) 0 Z2.zero
theorem Z53_walk {a0:TDef}{a1:Bs}{r:Z2×Bool}(hE:Z53 a0 a1=some r) (H:Heap) :ACalls Tryz.prog 71 [.agg (TDef.c a0),.d (.str a1)] H fun v h'=>v=.tup [.agg (Z2.c r.1),.d (.bool r.2)]/\h'=H:=by
 unfold Z53 at hE;refine ACalls.oW 28 [.cell 4 78,.tmp 5] Tryz.call71 Tryz.func71 ?_;refine seqR (S BX ?_);refine Sl ?_;refine S As (nil ?_);refine seqJ (TA 4 KeepsT.nil) (fun(z:Z2)=>[]) (fun z=>[Z2.c z]) (fun z=>H) (fun z=>Z53_j2 z=some r) ?_ ?_
 ·intro K2 hK2;refine seqR (S As (nil ?_));refine block ?_;refine loopO (TA 1 (TA 2 (TA 4 KeepsT.nil))) (fun(z:Nat×Nat×Z2)=>[(6,.a (.d (.int .i64 ((z.2.1:Nat):Int))))]) (fun z=>[Z2.c z.2.2]) (fun z=>H) (fun z=>z.1) (fun z=>Z53_l6 a0 a1 z.1 z.2.1 z.2.2=some r) ((a0.FFields.l.length+1),0,Z2.zero) hE Weak.toA ?_;rintro ⟨n6,s6_7,y8_l0⟩ hE K6 hK6;try dsimp only at hE
  cases n6 with
  | zero=>cases hE
  | succ n6 =>
    rw [Z53_l6] at hE;refine seqK fun K9 hK9=>?_;refine seqR (S Mv (S Fv (S Ld ?_)));refine sLen (f:=Z2.c) (s:=a0.FFields) (TK rfl) rfl rfl rfl rfl fun hL11=>?_;refine S BI (nil ?_);refine cE hE (fun hc12 hE=>?_) (fun hc12 hE=>?_)
    ·try dsimp only at hc12
     have hf12:=of_decide_eq_true hc12;refine sk hK9 ?_;clear hK9 K9;refine seqK fun K13 hK13=>?_;refine block ?_;refine seqR (S Fv (S Ld (S Mv ?_)));obtain⟨x15,gx15,hE⟩:=bO hE;refine S (ix Z2.c s6_7 gx15) (S Fv (S Ld (S Mv (S BS (nil ?_)))));refine cE hE (fun hc16 hE=>?_) (fun hc16 hE=>?_)
     ·refine seqR (S Fv (S Ld (S Mv ?_)));obtain⟨x18,gx18,hE⟩:=bO hE;refine S (ix Z2.c s6_7 gx18) (S Ld ?_);refine Sf ?_;refine S As (nil ?_);exact rt hE
     refine sk hK13 ?_;clear hK13 K13;refine region ?_;refine S Mv ?_;refine SI ?_;refine S As (nil ?_);exact hK6 _ (n6,(s6_7+1),y8_l0) Weak.toA hE (Nat.lt_succ_self _)
    refine AWp.exit ?_;exact hK2 _ y8_l0 Weak.toA hE
 rintro y3_l0 hE;try dsimp only at hE
 unfold Z53_j2 at hE;refine seqR (S BU ?_);refine Sf ?_;refine S As (nil ?_);exact rt hE
def Z65_j3  (s5_4:(Sl Z1)):Option (Sl Z1):=some s5_4
def Z65_j14 (s6_9:Nat) (k_next_7:(Sl Z1)->Nat->Option (Sl Z1)) (s5_15:(Sl Z1)):Option (Sl Z1):=k_next_7 s5_15 (s6_9+1)
def Z65_j29 (a0:TDoc) (s6_9:Nat) (x17:Z2) (x20:Bs) (k_next_7:(Sl Z1)->Nat->Option (Sl Z1)) (s5_30:(Sl Z1)):Option (Sl Z1):=(catC x20 ([40]:Bs)).bind fun x31=>(Z67 a0 x17.FArgs x31 ([41]:Bs)).bind fun x32=>(appC 24 s5_30 x32).bind fun x33=>Z65_j14 s6_9 k_next_7 x33
def Z65_l7 (a0:TDoc) (a1:TDef) :Nat->(Sl Z1)->Nat->Option (Sl Z1)
 | 0,_,_=>none
 | n7+1,s5_8,s6_9=>bif (decide (((s6_9:Nat):Int)<((a1.FFields.l.length:Nat):Int))) then((a1.FFields.l[s6_9]?).bind fun x17=>(catC a1.FName ([46]:Bs)).bind fun x19=>(catC x19 x17.FName).bind fun x20=>(partC a1.FFields none (some ((s6_9:Nat):Int))).bind fun x22=>(Z53 (TDef.mk (0:Int) ([]:Bs) (Sl.nil:Sl Bs) (Sl.nil:Sl TDir) x22 (Sl.nil:Sl Z5) (Sl.nil:Sl Z4)) x17.FName).bind fun x23=>(Z70 x17.FName false x23.2 x20).bind fun x25=>(appC 24 s5_8 x25).bind fun x26=>(Z54 a0 x17.FType.FName).bind fun x28=>(Z68 a0 x17.FType.FName).bind fun x35=>bif (!x35) then((appC 24 x26 (⟨false,[(Z1.mk (8:Int) x20)]⟩:Sl Z1)).bind fun x37=>Z65_j29 a0 s6_9 x17 x20 ((Z65_l7 a0 a1 n7)) x37) else((Z60 x17.FType.FName).bind fun x39=>bif (((!x39)&&x28.2)&&(decide (x28.1.FKind=(5:Int)))) then((appC 24 x26 (⟨false,[(Z1.mk (10:Int) x20)]⟩:Sl Z1)).bind fun x41=>Z65_j29 a0 s6_9 x17 x20 ((Z65_l7 a0 a1 n7)) x41) else(Z65_j29 a0 s6_9 x17 x20 ((Z65_l7 a0 a1 n7)) x26))) else(Z65_j3   s5_8)
def Z65 (a0:TDoc) (a1:TDef):Option (Sl Z1):=Z65_l7 a0 a1 (a1.FFields.l.length+1) (Sl.nil:Sl Z1) 0
theorem Z65_walk {a0:TDoc}{a1:TDef}{r:Sl Z1}(hE:Z65 a0 a1=some r) (H:Heap) :ACalls Tryz.prog 33 [.agg (TDoc.c a0),.agg (TDef.c a1)] H fun v h'=>v=.a (.d (Sl.d 2 Z1.c none r))/\h'=H:=by
 unfold Z65 at hE;refine ACalls.oW 95 [.tmp 4] Tryz.call33 Tryz.func33 ?_;refine AWp.tok 2 fun tk1 htk1=>?_;refine seqR (S BX (S BX ?_));refine s0 (assignNil (k':=2) rfl) rfl ?_;refine nil ?_;refine seqR (S As (nil ?_));refine AWp.nilTok 5 2 tk1 rfl hpG ?_;refine seqJH KeepsT.nil (fun(z:(Sl Z1))=>[(5,.a (.d (Sl.d 2 Z1.c (some tk1) z)))]) (fun z=>(H.set tk1 (some (.tok 2 z.l.length)))) (fun z=>Z65_j3 z=some r) ?_ ?_
 ·intro K3 hK3;refine seqR (S As (nil ?_));refine block ?_;refine loopH (TA 2 (TA 3 KeepsT.nil)) (fun(z:Nat×(Sl Z1)×Nat)=>[(5,.a (.d (Sl.d 2 Z1.c (some tk1) z.2.1))),(6,.a (.d (.int .i64 ((z.2.2:Nat):Int))))]) (fun z=>(H.set tk1 (some (.tok 2 z.2.1.l.length)))) (fun z=>z.1) (fun z=>Z65_l7 a0 a1 z.1 z.2.1 z.2.2=some r) ((a1.FFields.l.length+1),(Sl.nil:Sl Z1),0) hE Weak.toA ?_;rintro ⟨n7,s5_8,s6_9⟩ hE K7 hK7
  try dsimp only at hE
  cases n7 with
  | zero=>cases hE
  | succ n7 =>
    rw [Z65_l7] at hE;refine seqK fun K10 hK10=>?_;refine seqR (S Mv (S Fv (S Ld ?_)));refine sLen (f:=Z2.c) (s:=a1.FFields) (TK rfl) rfl rfl rfl rfl fun hL12=>?_;refine S BI (nil ?_);refine cE hE (fun hc13 hE=>?_) (fun hc13 hE=>?_)
    ·try dsimp only at hc13
     have hf13:=of_decide_eq_true hc13;refine sk hK10 ?_;clear hK10 K10;refine seqJH (TA 2 (TA 3 (TA 6 KeepsT.nil))) (fun(z:(Sl Z1))=>[(5,.a (.d (Sl.d 2 Z1.c (some tk1) z)))]) (fun z=>(H.set tk1 (some (.tok 2 z.l.length)))) (fun z=>Z65_j14 s6_9 ((Z65_l7 a0 a1 n7)) z=some r) ?_ ?_
     ·intro K14 hK14;refine block ?_;refine seqR (S Fv (S Ld (S Mv ?_)));obtain⟨x17,gx17,hE⟩:=bO hE;refine S (ix Z2.c s6_9 gx17) (S Ld ?_);refine Sl ?_;refine Sf ?_;refine nil ?_;refine freezeA 7 _ rfl (KA 2 (KA 3 (KA 5 (KA 6 Keeps.nil)))) ?_;refine seqR (S Fv (S Ld ?_));obtain⟨x19,gx19,hE⟩:=bO hE;refine s0 (catM rfl rfl gx19) rfl ?_;refine S Fv (S Ld ?_);obtain⟨x20,gx20,hE⟩:=bO hE;refine s0 (catM rfl rfl gx20) rfl ?_
      refine S As (nil ?_);refine AWp.seqD (Sd Fv (Sd Ld (Sd Mv ?_)));obtain⟨x22,gx22,hE⟩:=bO hE;refine DOps.s0 (partM (f:=Z2.c) (l:=none) (r:=(some ((s6_9:Nat):Int))) (TK rfl) rfl (TK rfl) rfl rfl trivial rfl gx22) rfl ?_;refine Sd BU (Sd Fv (Sd Ld ?_));obtain⟨x23,gx23,hE⟩:=bO hE;refine Scd rfl rfl (Z53_walk gx23) ?_;refine Sd Mv (Sd EX (Sd EX ?_));refine DOps.sB (TK rfl) rfl rfl ?_ (by repeat (first|exact Snoc.nil|apply Snoc.cons))
      refine DOps.sLn (storeLFA (TK rfl) rfl rfl rfl rfl rfl) ?_;refine Sd As ?_;refine DOps.nil (by decide +kernel) ?_;refine freezeA 9 _ rfl (KA 2 (KA 3 (KA 5 (KA 6 (KA 7 (KA 8 (KA 10 Keeps.nil))))))) ?_;refine seqR (S Mv (S Fv (S Ld (S Mv (S Mv ?_)))));obtain⟨x25,gx25,hE⟩:=bO hE;refine Sc rfl rfl (Z70_walk gx25) ?_;obtain⟨x26,gx26,hE⟩:=bO hE;refine SH (am Z1.c (TK rfl) rfl (TK rfl) (TK rfl) gx26) ?_
      refine hq (H.set tk1 (some (.tok 2 x26.l.length))) ?_;refine S As (nil ?_);refine seqR (S Ld (S Fv (S Fv (S Ld ?_))));obtain⟨x28,gx28,hE⟩:=bO hE;refine Sc rfl rfl (Z54_walk gx28) ?_;refine S Mv (S EX (S EX ?_));refine Sl ?_;refine Sf ?_;refine S As (nil ?_);refine freezeA 11 _ rfl (KA 2 (KA 3 (KA 5 (KA 6 (KA 7 (KA 8 (KA 12 Keeps.nil))))))) ?_;refine seqJH (TA 2 (TA 3 (TA 6 (TA 7 (TA 8 KeepsT.nil))))) (fun(z:(Sl Z1))=>[(5,.a (.d (Sl.d 2 Z1.c (some tk1) z)))]) (fun z=>(H.set tk1 (some (.tok 2 z.l.length)))) (fun z=>Z65_j29 a0 s6_9 x17 x20 ((Z65_l7 a0 a1 n7)) z=some r) ?_ ?_
      ·intro K29 hK29;refine seqR (S Ld (S Fv (S Fv (S Ld ?_))));obtain⟨x35,gx35,hE⟩:=bO hE;refine Sc rfl rfl (Z68_walk gx35) ?_;refine S NB (nil ?_);refine cE hE (fun hc36 hE=>?_) (fun hc36 hE=>?_)
       ·refine region ?_;refine S Mv (S Mv (S BU (S BV ?_)));obtain⟨x37,gx37,hE⟩:=bO hE;refine SH (am Z1.c (TK rfl) rfl (TK rfl) (TK rfl) gx37) ?_;refine hq (H.set tk1 (some (.tok 2 x37.l.length))) ?_;refine S As (nil ?_);exact hK29 _ x37 Weak.toA hE
       refine seqR (S Fv (S Fv (S Ld ?_)));obtain⟨x39,gx39,hE⟩:=bO hE;refine Sc rfl rfl (Z60_walk gx39) ?_;refine S NB (S Mv (G0 Mv (S PA (S Mv (G0 Fv ?_)))));refine G1 77 rfl Ld ?_;refine G1 78 rfl BI ?_;refine S PA (nil ?_);refine cE hE (fun hc40 hE=>?_) (fun hc40 hE=>?_)
       ·refine region ?_;refine S Mv (S Mv (S BU (S BV ?_)));obtain⟨x41,gx41,hE⟩:=bO hE;refine SH (am Z1.c (TK rfl) rfl (TK rfl) (TK rfl) gx41) ?_;refine hq (H.set tk1 (some (.tok 2 x41.l.length))) ?_;refine S As (nil ?_);exact hK29 _ x41 Weak.toA hE
       refine AWp.skip ?_;exact hK29 _ x26 Weak.toA hE
      rintro s5_30 hE;try dsimp only at hE
      unfold Z65_j29 at hE;refine region ?_;refine S Mv (S Ld (S Fv (S Ld (S Mv ?_))));obtain⟨x31,gx31,hE⟩:=bO hE;refine s0 (catM rfl rfl gx31) rfl ?_;obtain⟨x32,gx32,hE⟩:=bO hE;refine Sc rfl rfl (Z67_walk gx32) ?_;obtain⟨x33,gx33,hE⟩:=bO hE;refine SH (am Z1.c (TK rfl) rfl (TK rfl) (TK rfl) gx33) ?_;refine hq (H.set tk1 (some (.tok 2 x33.l.length))) ?_;refine S As (nil ?_);exact hK14 _ x33 Weak.toA hE
     rintro s5_15 hE;try dsimp only at hE
     unfold Z65_j14 at hE;refine region ?_;refine S Mv ?_;refine SI ?_;refine S As (nil ?_);exact hK7 _ (n7,s5_15,(s6_9+1)) Weak.toA hE (Nat.lt_succ_self _)
    refine AWp.exit ?_;exact hK3 _ s5_8 Weak.toA hE
 rintro s5_4 hE;try dsimp only at hE
 unfold Z65_j3 at hE;refine seqR (S Mv (S As (nil ?_)));refine AWp.dropTok 4 rfl ?_;refine AWp.ret ?_;repeat (first|refine xBlock_ret ?_|refine xThen_ret ?_)
 obtain rfl:=Option.some.inj hE;refine retQ.retF H rfl ⟨rfl,rfl⟩ ?_
 first|exact Heap.sub_set htk1|(simp only [Heap.set_set]; exact Heap.sub_set htk1)
def Z69_j3  (s3_4:(Sl Z1)):Option (Sl Z1):=some s3_4
def Z69_j14 (s4_9:Nat) (k_next_7:(Sl Z1)->Nat->Option (Sl Z1)) (s3_15:(Sl Z1)):Option (Sl Z1):=k_next_7 s3_15 (s4_9+1)
def Z69_j19 (a0:TDef) (s3_8:(Sl Z1)) (s4_9:Nat) (x17:Z5) (k_next_7:(Sl Z1)->Nat->Option (Sl Z1)) (s6_20:Bool):Option (Sl Z1):=(catC a0.FName ([46]:Bs)).bind fun x21=>(catC x21 x17.FName).bind fun x22=>(Z70 x17.FName ((((x17.FName==([116,114,117,101]:Bs)))||((x17.FName==([102,97,108,115,101]:Bs))))||((x17.FName==([110,117,108,108]:Bs)))) s6_20 x22).bind fun x23=>(appC 24 s3_8 x23).bind fun x24=>Z69_j14 s4_9 k_next_7 x24
def Z69_l26 (a0:TDef) (s3_8:(Sl Z1)) (s4_9:Nat) (x17:Z5) (k_next_7:(Sl Z1)->Nat->Option (Sl Z1)):Nat->Bool->Nat->Option (Sl Z1)
 | 0,_,_=>none
 | n26+1,s6_27,s7_28=>bif (decide (((s7_28:Nat):Int)<((s4_9:Nat):Int))) then(guardO (!s6_27) (a0.FMembers.l[s7_28]?) Z5.zero fun x33=>(Z69_l26 a0 s3_8 s4_9 x17 k_next_7 n26) (s6_27||((x33.FName==x17.FName))) (s7_28+1)) else(Z69_j19 a0 s3_8 s4_9 x17 k_next_7 s6_27)
def Z69_l7 (a0:TDef) :Nat->(Sl Z1)->Nat->Option (Sl Z1)
 | 0,_,_=>none
 | n7+1,s3_8,s4_9=>bif (decide (((s4_9:Nat):Int)<((a0.FMembers.l.length:Nat):Int))) then((a0.FMembers.l[s4_9]?).bind fun x17=>Z69_l26 a0 s3_8 s4_9 x17 ((Z69_l7 a0 n7)) (s4_9+1) false 0) else(Z69_j3   s3_8)
def Z69 (a0:TDef):Option (Sl Z1):=Z69_l7 a0 (a0.FMembers.l.length+1) (Sl.nil:Sl Z1) 0
theorem Z69_walk {a0:TDef}{r:Sl Z1}(hE:Z69 a0=some r) (H:Heap) :ACalls Tryz.prog 34 [.agg (TDef.c a0)] H fun v h'=>v=.a (.d (Sl.d 2 Z1.c none r))/\h'=H:=by
 unfold Z69 at hE;refine ACalls.oW 58 [.tmp 2] Tryz.call34 Tryz.func34 ?_;refine AWp.tok 2 fun tk1 htk1=>?_;refine seqR (S BX ?_);refine s0 (assignNil (k':=2) rfl) rfl ?_;refine nil ?_;refine seqR (S As (nil ?_));refine AWp.nilTok 3 2 tk1 rfl hpG ?_;refine seqJH KeepsT.nil (fun(z:(Sl Z1))=>[(3,.a (.d (Sl.d 2 Z1.c (some tk1) z)))]) (fun z=>(H.set tk1 (some (.tok 2 z.l.length)))) (fun z=>Z69_j3 z=some r) ?_ ?_
 ·intro K3 hK3;refine seqR (S As (nil ?_));refine block ?_;refine loopH (TA 1 KeepsT.nil) (fun(z:Nat×(Sl Z1)×Nat)=>[(3,.a (.d (Sl.d 2 Z1.c (some tk1) z.2.1))),(4,.a (.d (.int .i64 ((z.2.2:Nat):Int))))]) (fun z=>(H.set tk1 (some (.tok 2 z.2.1.l.length)))) (fun z=>z.1) (fun z=>Z69_l7 a0 z.1 z.2.1 z.2.2=some r) ((a0.FMembers.l.length+1),(Sl.nil:Sl Z1),0) hE Weak.toA ?_;rintro ⟨n7,s3_8,s4_9⟩ hE K7 hK7
  try dsimp only at hE
  cases n7 with
  | zero=>cases hE
  | succ n7 =>
    rw [Z69_l7] at hE;refine seqK fun K10 hK10=>?_;refine seqR (S Mv (S Fv (S Ld ?_)));refine sLen (f:=Z5.c) (s:=a0.FMembers) (TK rfl) rfl rfl rfl rfl fun hL12=>?_;refine S BI (nil ?_);refine cE hE (fun hc13 hE=>?_) (fun hc13 hE=>?_)
    ·try dsimp only at hc13
     have hf13:=of_decide_eq_true hc13;refine sk hK10 ?_;clear hK10 K10;refine seqJH (TA 1 (TA 4 KeepsT.nil)) (fun(z:(Sl Z1))=>[(3,.a (.d (Sl.d 2 Z1.c (some tk1) z)))]) (fun z=>(H.set tk1 (some (.tok 2 z.l.length)))) (fun z=>Z69_j14 s4_9 ((Z69_l7 a0 n7)) z=some r) ?_ ?_
     ·intro K14 hK14;refine block ?_;refine seqR (S Fv (S Ld (S Mv ?_)));obtain⟨x17,gx17,hE⟩:=bO hE;refine S (ix Z5.c s4_9 gx17) (S Fv (S Ld (S As (nil ?_))));refine seqR (S As (nil ?_));refine seqJH (TA 1 (TA 3 (TA 4 (TA 5 KeepsT.nil)))) (fun(z:Bool)=>[(6,.a (.d (.bool z)))]) (fun z=>(H.set tk1 (some (.tok 2 s3_8.l.length)))) (fun z=>Z69_j19 a0 s3_8 s4_9 x17 ((Z69_l7 a0 n7)) z=some r) ?_ ?_
      ·intro K19 hK19;refine seqR (S As (nil ?_));refine block ?_;refine loopH (TA 1 (TA 3 (TA 4 (TA 5 KeepsT.nil)))) (fun(z:Nat×Bool×Nat)=>[(6,.a (.d (.bool z.2.1))),(7,.a (.d (.int .i64 ((z.2.2:Nat):Int))))]) (fun z=>(H.set tk1 (some (.tok 2 s3_8.l.length)))) (fun z=>z.1) (fun z=>Z69_l26 a0 s3_8 s4_9 x17 ((Z69_l7 a0 n7)) z.1 z.2.1 z.2.2=some r) ((s4_9+1),false,0) hE Weak.toA ?_;rintro ⟨n26,s6_27,s7_28⟩ hE K26 hK26
       try dsimp only at hE
       cases n26 with
       | zero=>cases hE
       | succ n26 =>
         rw [Z69_l26] at hE;refine seqK fun K29 hK29=>?_;refine seqR (S Mv (S Mv (S BI (nil ?_))));refine cE hE (fun hc31 hE=>?_) (fun hc31 hE=>?_)
         ·try dsimp only at hc31
          have hf31:=of_decide_eq_true hc31;refine sk hK29 ?_;clear hK29 K29;refine seqK fun K32 hK32=>?_;refine block ?_;refine region ?_;refine S Mv (S Mv (G0 Fv ?_));refine G1 28 rfl Ld ?_;refine G0 Mv ?_;obtain⟨x33,gx33,hE⟩:=gO hE;refine gC rfl rfl (fun hC=>ungdA (k:=29) rfl (ungdA (k:=30) rfl (idxMn (f:=Z5.c) (n:=s7_28) (TK rfl) rfl (TK rfl) rfl rfl rfl (gx33 hC)))) rfl ?_;refine G1 31 rfl Fv ?_
          refine G1 32 rfl Ld ?_;refine G0 Mv ?_;refine G2 33 34 rfl rfl BS ?_;refine S PO (S As (nil ?_));refine hK32 _ ?_;clear hK32 K32;refine region ?_;refine S Mv ?_;refine SI ?_;refine S As (nil ?_);exact hK26 _ (n26,(s6_27||((x33.FName==x17.FName))),(s7_28+1)) Weak.toA hE (Nat.lt_succ_self _)
         refine AWp.exit ?_;exact hK19 _ s6_27 Weak.toA hE
      rintro s6_20 hE;try dsimp only at hE
      unfold Z69_j19 at hE;refine region ?_;refine S Mv (S Mv (S Mv (S BS (S Mv (G0 Mv ?_)))));refine G1 42 rfl BS ?_;refine S PO (S Mv (G0 Mv ?_));refine G1 46 rfl BS ?_;refine S PO (S Mv (S Fv (S Ld ?_)));obtain⟨x21,gx21,hE⟩:=bO hE;refine s0 (catM rfl rfl gx21) rfl ?_;refine S Mv ?_;obtain⟨x22,gx22,hE⟩:=bO hE;refine s0 (catM rfl rfl gx22) rfl ?_;obtain⟨x23,gx23,hE⟩:=bO hE;refine Sc rfl rfl (Z70_walk gx23) ?_
      obtain⟨x24,gx24,hE⟩:=bO hE;refine SH (am Z1.c (TK rfl) rfl (TK rfl) (TK rfl) gx24) ?_;refine hq (H.set tk1 (some (.tok 2 x24.l.length))) ?_;refine S As (nil ?_);exact hK14 _ x24 Weak.toA hE
     rintro s3_15 hE;try dsimp only at hE
     unfold Z69_j14 at hE;refine region ?_;refine S Mv ?_;refine SI ?_;refine S As (nil ?_);exact hK7 _ (n7,s3_15,(s4_9+1)) Weak.toA hE (Nat.lt_succ_self _)
    refine AWp.exit ?_;exact hK3 _ s3_8 Weak.toA hE
 rintro s3_4 hE;try dsimp only at hE
 unfold Z69_j3 at hE;refine seqR (S Mv (S As (nil ?_)));refine AWp.dropTok 2 rfl ?_;refine AWp.ret ?_;repeat (first|refine xBlock_ret ?_|refine xThen_ret ?_)
 obtain rfl:=Option.some.inj hE;refine retQ.retF H rfl ⟨rfl,rfl⟩ ?_
 first|exact Heap.sub_set htk1|(simp only [Heap.set_set]; exact Heap.sub_set htk1)
def Z50_j7  (s5_8:(Sl Z1)):Option (Sl Z1):=some s5_8
def Z50_j3 (a0:TDoc) (a1:Bool)  (s5_4:(Sl Z1)):Option (Sl Z1):=(Z54 a0 ([81,117,101,114,121]:Bs)).bind fun x6=>bif (a1&&(!x6.2)) then((appC 24 s5_4 (⟨false,[(Z1.mk (30:Int) ([81,117,101,114,121]:Bs))]⟩:Sl Z1)).bind fun x12=>Z50_j7   x12) else(Z50_j7   s5_4)
def Z50_j21 (s6_16:Nat) (k_next_14:(Sl Z1)->Nat->Option (Sl Z1)) (s5_22:(Sl Z1)):Option (Sl Z1):=k_next_14 s5_22 (s6_16+1)
def Z50_j29 (a0:TDoc) (s6_16:Nat) (x24:TDef) (x27:(Sl Z1)) (k_next_14:(Sl Z1)->Nat->Option (Sl Z1)) (s29_30:Bool):Option (Sl Z1):=bif s29_30 then((Z65 a0 x24).bind fun x32=>(appC 24 x27 x32).bind fun x33=>Z50_j21 s6_16 k_next_14 x33) else(bif (decide (x24.FKind=(4:Int))) then((Z69 x24).bind fun x36=>(appC 24 x27 x36).bind fun x37=>Z50_j21 s6_16 k_next_14 x37) else(bif (decide (x24.FKind=(5:Int))) then((catC x24.FName ([46]:Bs)).bind fun x40=>(Z67 a0 x24.FInputs x40 ([]:Bs)).bind fun x41=>(appC 24 x27 x41).bind fun x42=>Z50_j21 s6_16 k_next_14 x42) else(Z50_j21 s6_16 k_next_14 x27)))
def Z50_l14 (a0:TDoc) (a1:Bool) :Nat->(Sl Z1)->Nat->Option (Sl Z1)
 | 0,_,_=>none
 | n14+1,s5_15,s6_16=>bif (decide (((s6_16:Nat):Int)<((a0.FDefs.l.length:Nat):Int))) then((a0.FDefs.l[s6_16]?).bind fun x24=>(Z72 a0 ((s6_16:Nat):Int)).bind fun x26=>(appC 24 s5_15 x26).bind fun x27=>bif (decide (x24.FKind=(1:Int))) then(Z50_j29 a0 s6_16 x24 x27 ((Z50_l14 a0 a1 n14)) (decide (x24.FKind=(1:Int)))) else(Z50_j29 a0 s6_16 x24 x27 ((Z50_l14 a0 a1 n14)) (decide (x24.FKind=(2:Int))))) else(Z50_j3 a0 a1  s5_15)
def Z50 (a0:TDoc) (a1:Bool):Option (Sl Z1):=Z50_l14 a0 a1 (a0.FDefs.l.length+1) (Sl.nil:Sl Z1) 0
theorem Z50_walk {a0:TDoc}{a1:Bool}{r:Sl Z1}(hE:Z50 a0 a1=some r) (H:Heap) :ACalls Tryz.prog 14 [.agg (TDoc.c a0),.d (.bool a1)] H fun v h'=>v=.a (.d (Sl.d 2 Z1.c none r))/\h'=H:=by
 unfold Z50 at hE;refine ACalls.oW 69 [.tmp 4] Tryz.call14 Tryz.func14 ?_;refine AWp.tok 2 fun tk1 htk1=>?_;refine seqR (S BX ?_);refine s0 (assignNil (k':=2) rfl) rfl ?_;refine nil ?_;refine seqR (S As (nil ?_));refine AWp.nilTok 5 2 tk1 rfl hpG ?_;refine seqJH (TA 1 (TA 2 KeepsT.nil)) (fun(z:(Sl Z1))=>[(5,.a (.d (Sl.d 2 Z1.c (some tk1) z)))]) (fun z=>(H.set tk1 (some (.tok 2 z.l.length)))) (fun z=>Z50_j3 a0 a1 z=some r) ?_ ?_
 ·intro K3 hK3;refine seqR (S As (nil ?_));refine block ?_;refine loopH (TA 1 (TA 2 KeepsT.nil)) (fun(z:Nat×(Sl Z1)×Nat)=>[(5,.a (.d (Sl.d 2 Z1.c (some tk1) z.2.1))),(6,.a (.d (.int .i64 ((z.2.2:Nat):Int))))]) (fun z=>(H.set tk1 (some (.tok 2 z.2.1.l.length)))) (fun z=>z.1) (fun z=>Z50_l14 a0 a1 z.1 z.2.1 z.2.2=some r) ((a0.FDefs.l.length+1),(Sl.nil:Sl Z1),0) hE Weak.toA ?_;rintro ⟨n14,s5_15,s6_16⟩ hE K14 hK14
  try dsimp only at hE
  cases n14 with
  | zero=>cases hE
  | succ n14 =>
    rw [Z50_l14] at hE;refine seqK fun K17 hK17=>?_;refine seqR (S Mv (S Fv (S Ld ?_)));refine sLen (f:=TDef.c) (s:=a0.FDefs) (TK rfl) rfl rfl rfl rfl fun hL19=>?_;refine S BI (nil ?_);refine cE hE (fun hc20 hE=>?_) (fun hc20 hE=>?_)
    ·try dsimp only at hc20
     have hf20:=of_decide_eq_true hc20;refine sk hK17 ?_;clear hK17 K17;refine seqJH (TA 1 (TA 2 (TA 6 KeepsT.nil))) (fun(z:(Sl Z1))=>[(5,.a (.d (Sl.d 2 Z1.c (some tk1) z)))]) (fun z=>(H.set tk1 (some (.tok 2 z.l.length)))) (fun z=>Z50_j21 s6_16 ((Z50_l14 a0 a1 n14)) z=some r) ?_ ?_
     ·intro K21 hK21;refine block ?_;refine seqR (S Fv (S Ld (S Mv ?_)));obtain⟨x24,gx24,hE⟩:=bO hE;refine S (ix TDef.c s6_16 gx24) (S Ld ?_);refine Sl ?_;refine Sf ?_;refine nil ?_;refine freezeA 7 _ rfl (KA 1 (KA 2 (KA 5 (KA 6 Keeps.nil)))) ?_;refine seqR (S Mv (S Ld (S Mv ?_)));obtain⟨x26,gx26,hE⟩:=bO hE;refine Sc rfl rfl (Z72_walk gx26) ?_;obtain⟨x27,gx27,hE⟩:=bO hE;refine SH (am Z1.c (TK rfl) rfl (TK rfl) (TK rfl) gx27) ?_
      refine hq (H.set tk1 (some (.tok 2 x27.l.length))) ?_;refine S As (nil ?_);refine seqR (S Fv (S Ld (nil ?_)));refine block ?_;refine seqJH (TA 1 (TA 2 (TA 5 (TA 6 (TA 7 (TA 28 KeepsT.nil)))))) (fun(z:Bool)=>[(29,.a (.d (.bool z)))]) (fun z=>(H.set tk1 (some (.tok 2 x27.l.length)))) (fun z=>Z50_j29 a0 s6_16 x24 x27 ((Z50_l14 a0 a1 n14)) z=some r) ?_ ?_
      ·intro K29 hK29;refine seqR (S BI (S As (nil ?_)));refine cE hE (fun hc44 hE=>?_) (fun hc44 hE=>?_)
       ·refine AWp.skip ?_;exact hK29 _ (decide (x24.FKind=(1:Int))) Weak.toA hE
       refine region ?_;refine S BI (S As (nil ?_));exact hK29 _ (decide (x24.FKind=(2:Int))) Weak.toA hE
      rintro s29_30 hE;try dsimp only at hE
      unfold Z50_j29 at hE;refine cE hE (fun hc31 hE=>?_) (fun hc31 hE=>?_)
      ·refine region ?_;refine S Mv (S Ld (S Ld ?_));obtain⟨x32,gx32,hE⟩:=bO hE;refine Sc rfl rfl (Z65_walk gx32) ?_;obtain⟨x33,gx33,hE⟩:=bO hE;refine SH (am Z1.c (TK rfl) rfl (TK rfl) (TK rfl) gx33) ?_;refine hq (H.set tk1 (some (.tok 2 x33.l.length))) ?_;refine S As (nil ?_);exact hK21 _ x33 Weak.toA hE
      refine seqR (S BI (S As (nil ?_)));refine cE hE (fun hc35 hE=>?_) (fun hc35 hE=>?_)
      ·refine region ?_;refine S Mv (S Ld ?_);obtain⟨x36,gx36,hE⟩:=bO hE;refine Sc rfl rfl (Z69_walk gx36) ?_;obtain⟨x37,gx37,hE⟩:=bO hE;refine SH (am Z1.c (TK rfl) rfl (TK rfl) (TK rfl) gx37) ?_;refine hq (H.set tk1 (some (.tok 2 x37.l.length))) ?_;refine S As (nil ?_);exact hK21 _ x37 Weak.toA hE
      refine seqR (S BI (S As (nil ?_)));refine cE hE (fun hc39 hE=>?_) (fun hc39 hE=>?_)
      ·refine region ?_;refine S Mv (S Ld (S Fv (S Ld (S Fv (S Ld ?_)))));obtain⟨x40,gx40,hE⟩:=bO hE;refine s0 (catM rfl rfl gx40) rfl ?_;obtain⟨x41,gx41,hE⟩:=bO hE;refine Sc rfl rfl (Z67_walk gx41) ?_;obtain⟨x42,gx42,hE⟩:=bO hE;refine SH (am Z1.c (TK rfl) rfl (TK rfl) (TK rfl) gx42) ?_;refine hq (H.set tk1 (some (.tok 2 x42.l.length))) ?_;refine S As (nil ?_);exact hK21 _ x42 Weak.toA hE
      refine AWp.skip ?_;exact hK21 _ x27 Weak.toA hE
     rintro s5_22 hE;try dsimp only at hE
     unfold Z50_j21 at hE;refine region ?_;refine S Mv ?_;refine SI ?_;refine S As (nil ?_);exact hK14 _ (n14,s5_22,(s6_16+1)) Weak.toA hE (Nat.lt_succ_self _)
    refine AWp.exit ?_;exact hK3 _ s5_15 Weak.toA hE
 rintro s5_4 hE;try dsimp only at hE
 unfold Z50_j3 at hE;refine seqR (S Ld ?_);obtain⟨x6,gx6,hE⟩:=bO hE;refine Sc rfl rfl (Z54_walk gx6) ?_;refine S Mv (S EX (S EX ?_));refine Sl ?_;refine Sf ?_;refine S As (nil ?_);refine freezeA 8 _ rfl (KA 1 (KA 5 (KA 9 Keeps.nil))) ?_;refine seqJH KeepsT.nil (fun(z:(Sl Z1))=>[(5,.a (.d (Sl.d 2 Z1.c (some tk1) z)))]) (fun z=>(H.set tk1 (some (.tok 2 z.l.length)))) (fun z=>Z50_j7 z=some r) ?_ ?_
 ·intro K7 hK7;refine seqR (S Mv (S Mv (G0 Mv ?_)));refine G1 61 rfl NB ?_;refine S PA (nil ?_);refine cE hE (fun hc11 hE=>?_) (fun hc11 hE=>?_)
  ·refine region ?_;refine S Mv (S BU (S BV ?_));obtain⟨x12,gx12,hE⟩:=bO hE;refine SH (am Z1.c (TK rfl) rfl (TK rfl) (TK rfl) gx12) ?_;refine hq (H.set tk1 (some (.tok 2 x12.l.length))) ?_;refine S As (nil ?_);exact hK7 _ x12 Weak.toA hE
  refine AWp.skip ?_;exact hK7 _ s5_4 Weak.toA hE
 rintro s5_8 hE;try dsimp only at hE
 unfold Z50_j7 at hE;refine seqR (S Mv (S As (nil ?_)));refine AWp.dropTok 4 rfl ?_;refine AWp.ret ?_;repeat (first|refine xBlock_ret ?_|refine xThen_ret ?_)
 obtain rfl:=Option.some.inj hE;refine retQ.retF H rfl ⟨rfl,rfl⟩ ?_
 first|exact Heap.sub_set htk1|(simp only [Heap.set_set]; exact Heap.sub_set htk1)
def Z81 (a0:TDoc) (a1:Bs) (a2:Int):Option Int:=(Z54 a0 a1).bind fun x3=>guardO ((!x3.2)) (Z60 a1) false fun x6=>bif ((!x3.2)&&(!x6)) then(some (8:Int)) else(bif (!decide (x3.1.FKind=a2)) then(some (9:Int)) else(some (0:Int)))
theorem Z81_walk {a0:TDoc}{a1:Bs}{a2 r:Int}(hE:Z81 a0 a1 a2=some r) (H:Heap) :ACalls Tryz.prog 75 [.agg (TDoc.c a0),.d (.str a1),.d (.int .i64 a2)] H fun v h'=>v=.a (.d (.int .i64 r))/\h'=H:=by
 unfold Z81 at hE;refine ACalls.oW 26 [.tmp 6] Tryz.call75 Tryz.func75 ?_;refine seqR (S BX (S As (nil ?_)));refine seqR (S Ld (S Mv ?_));obtain⟨x3,gx3,hE⟩:=bO hE;refine Sc rfl rfl (Z54_walk gx3) ?_;refine S Mv (S EX (S EX ?_));refine Sl ?_;refine Sf ?_;refine S As (nil ?_);refine freezeA 7 _ rfl (KA 1 (KA 2 (KA 8 Keeps.nil))) ?_;refine seqK fun K4 hK4=>?_;refine seqR (S Mv (S NB (S Mv (G0 Mv ?_))))
 obtain⟨x6,gx6,hE⟩:=gO hE;refine Gc1 18 rfl rfl rfl rfl rfl (fun hC=>Z60_walk (gx6 hC)) ?_;refine G1 19 rfl NB ?_;refine S PA (nil ?_);refine cE hE (fun hc7 hE=>?_) (fun hc7 hE=>?_)
 ·refine seqR (S As (nil ?_));exact rt hE
 refine sk hK4 ?_;clear hK4 K4;refine seqK fun K9 hK9=>?_;refine seqR (S Fv (S Ld (S Mv (S BI (nil ?_)))));refine cE hE (fun hc11 hE=>?_) (fun hc11 hE=>?_)
 ·refine seqR (S As (nil ?_));exact rt hE
 refine sk hK9 ?_;clear hK9 K9;refine seqR (S As (nil ?_));exact rt hE
end Go.Proofs
