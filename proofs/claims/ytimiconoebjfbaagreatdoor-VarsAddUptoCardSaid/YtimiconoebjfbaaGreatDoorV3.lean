import Derived.Test.YtimiconoebjfbaaGreatDoorV2
set_option maxRecDepth 100000
set_option maxHeartbeats 2000000
set_option linter.unusedVariables false
set_option linter.unusedSimpArgs false
namespace Go.Proofs
open Go Go.Ab
open AOps Cert AWp Keeps KeepsT
variable {lou:Lou}
def Z80_j2  :Option Bool:=some false
def Z80_l5 (a0:(Sl Bs)) (a1:Bs) :Nat->Nat->Option Bool
 | 0,_=>none
 | n5+1,s5_6=>bif (decide (((s5_6:Nat):Int)<((a0.l.length:Nat):Int))) then((a0.l[s5_6]?).bind fun x13=>bif ((x13==a1)) then(some true) else((Z80_l5 a0 a1 n5) (s5_6+1))) else(Z80_j2   )
def Z80 (a0:(Sl Bs)) (a1:Bs):Option Bool:=Z80_l5 a0 a1 (a0.l.length+1) 0
theorem Z80_walk {a0:Sl Bs}{a1:Bs}{w0:Option Nat}{r:Bool}(hE:Z80 a0 a1=some r) (H:Heap) :ACalls Tryz.prog 76 [.d (Sl.d 1 strE w0 a0),.d (.str a1)] H fun v h'=>v=.a (.d (.bool r))/\h'=H:=by
 unfold Z80 at hE;refine ACalls.oW 18 [.tmp 4] Tryz.call76 Tryz.func76 ?_;refine seqR (S As (nil ?_));refine seqJH KeepsT.nil (fun(z:Unit)=>[]) (fun z=>H) (fun z=>Z80_j2 =some r) ?_ ?_
 ·intro K2 hK2;refine seqR (S As (nil ?_));refine block ?_;refine loopH (TA 0 (TA 1 KeepsT.nil)) (fun(z:Nat×Nat)=>[(5,.a (.d (.int .i64 ((z.2:Nat):Int))))]) (fun z=>H) (fun z=>z.1) (fun z=>Z80_l5 a0 a1 z.1 z.2=some r) ((a0.l.length+1),0) hE Weak.toA ?_;rintro ⟨n5,s5_6⟩ hE K5 hK5;try dsimp only at hE
  cases n5 with
  | zero=>cases hE
  | succ n5 =>
    rw [Z80_l5] at hE;refine seqK fun K7 hK7=>?_;refine seqR (S Mv (S Mv ?_));refine sLen (f:=strE) (s:=a0) (TK rfl) rfl rfl rfl rfl fun hL9=>?_;refine S BI (nil ?_);refine cE hE (fun hc10 hE=>?_) (fun hc10 hE=>?_)
    ·try dsimp only at hc10
     have hf10:=of_decide_eq_true hc10;refine sk hK7 ?_;clear hK7 K7;refine seqK fun K11 hK11=>?_;refine block ?_;refine seqR (S Mv (S Mv ?_));obtain⟨x13,gx13,hE⟩:=bO hE;refine S (ix strE s5_6 gx13) (S Ld (S Mv (S BS (nil ?_))));refine cE hE (fun hc14 hE=>?_) (fun hc14 hE=>?_)
     ·refine seqR (S As (nil ?_));exact rt hE
     refine sk hK11 ?_;clear hK11 K11;refine region ?_;refine S Mv ?_;refine SI ?_;refine S As (nil ?_);exact hK5 _ (n5,(s5_6+1)) Weak.toA hE (Nat.lt_succ_self _)
    refine AWp.exit ?_;exact hK2 _ () Weak.toA hE
 rintro _ hE;try dsimp only at hE
 unfold Z80_j2 at hE;refine seqR (S As (nil ?_));exact rt hE
def Z37 (a0:TRef):Option Bool:=guardO ((decide ((0:Int)<((a0.FWraps.l.length:Nat):Int)))) (a0.FWraps.l[0]?) (0:Int) fun x4=>some ((decide ((0:Int)<((a0.FWraps.l.length:Nat):Int)))&&(decide (x4=(1:Int))))
theorem Z37_walk {a0:TRef}{r:Bool}(hE:Z37 a0=some r) (H:Heap) :ACalls Tryz.prog 110 [.agg (TRef.c a0)] H fun v h'=>v=.a (.d (.bool r))/\h'=H:=by
 unfold Z37 at hE;refine ACalls.oW 14 [.tmp 2] Tryz.call110 Tryz.func110 ?_;refine seqR (S BX (S As (nil ?_)));refine seqR (S Fv (S Ld ?_));refine sLen (f:=(intE .i64)) (s:=a0.FWraps) (TK rfl) rfl rfl rfl rfl fun hL3=>?_;refine S BI (S Mv (G0 Fv ?_));refine G1 8 rfl Ld ?_;obtain⟨x4,gx4,hE⟩:=gO hE;refine gC rfl rfl (fun hC=>ungdA (k:=9) rfl (idxMn (f:=(intE .i64)) (n:=0) (TK rfl) rfl (TK rfl) rfl rfl rfl (gx4 hC))) rfl ?_
 refine G1 10 rfl Ld ?_;refine G1 11 rfl BI ?_;refine S PA (S As (nil ?_));exact rt hE
def Z41 (a0:TRef):Option TRef:=(partC a0.FWraps (some (1:Int)) none).bind fun x3=>(appC 8 (⟨false,[]⟩:Sl Int) x3).bind fun x4=>some (TRef.mk a0.FName x4)
theorem Z41_walk {a0 r:TRef}(hE:Z41 a0=some r) (H:Heap) :ACalls Tryz.prog 144 [.agg (TRef.c a0)] H fun v h'=>v=.a (.agg (TRef.c r))/\h'=H:=by
 unfold Z41 at hE;refine ACalls.oW 11 [.cell 2 41] Tryz.call144 Tryz.func144 ?_;refine seqR (S BX ?_);refine Sl ?_;refine nil ?_;refine AWp.seqD (Sd Fv (Sd Ld ?_));refine DOps.s0 (buildSliceF (TK rfl) rfl (TK rfl) rfl rfl rfl rfl rfl rfl) rfl ?_;refine Sd Fv (Sd Ld ?_);obtain⟨x3,gx3,hE⟩:=bO hE;refine DOps.s0 (partM (f:=(intE .i64)) (l:=(some (1:Int))) (r:=none) (TK rfl) rfl (TK rfl) rfl rfl rfl trivial gx3) rfl ?_
 obtain⟨x4,gx4,hE⟩:=bO hE;refine DOps.s0 (appFM (f:=(intE .i64)) (TK rfl) rfl (TK rfl) (TK rfl) ⟨_,rfl⟩ rfl rfl (by decide) rfl rfl rfl (by intro q h; cases h<;>decide) rfl rfl gx4) rfl ?_;refine Sd BU ?_;refine DOps.sLn (storeLFA (TK rfl) rfl rfl rfl rfl rfl) ?_;refine DOps.nil (by decide +kernel) ?_;exact rt hE
def Z38 (a0:TRef):Option TRef:=(Z37 a0).bind fun x4=>bif x4 then((Z41 a0).bind fun x7=>some x7) else((appC 8 (⟨false,[]⟩:Sl Int) a0.FWraps).bind fun x9=>some (TRef.mk a0.FName x9))
theorem Z38_walk {a0 r:TRef}(hE:Z38 a0=some r) (H:Heap) :ACalls Tryz.prog 128 [.agg (TRef.c a0)] H fun v h'=>v=.a (.agg (TRef.c r))/\h'=H:=by
 unfold Z38 at hE;refine ACalls.oW 14 [.cell 2 41] Tryz.call128 Tryz.func128 ?_;refine seqR (S BX ?_);refine Sl ?_;refine nil ?_;refine seqK fun K2 hK2=>?_;refine seqR (S Ld ?_);obtain⟨x4,gx4,hE⟩:=bO hE;refine Sc rfl rfl (Z37_walk gx4) ?_;refine nil ?_;refine cE hE (fun hc5 hE=>?_) (fun hc5 hE=>?_)
 ·refine seqR (S Ld ?_);obtain⟨x7,gx7,hE⟩:=bO hE;refine Sc rfl rfl (Z41_walk gx7) ?_;refine Sf ?_;refine nil ?_;exact rt hE
 refine sk hK2 ?_;clear hK2 K2;refine AWp.seqD (Sd Fv (Sd Ld ?_));refine DOps.s0 (buildSliceF (TK rfl) rfl (TK rfl) rfl rfl rfl rfl rfl rfl) rfl ?_;refine Sd Fv (Sd Ld ?_);obtain⟨x9,gx9,hE⟩:=bO hE;refine DOps.s0 (appFM (f:=(intE .i64)) (TK rfl) rfl (TK rfl) (TK rfl) ⟨_,rfl⟩ rfl rfl (by decide) rfl rfl rfl (by intro q h; cases h<;>decide) rfl rfl gx9) rfl ?_;refine Sd BU ?_;refine DOps.sLn (storeLFA (TK rfl) rfl rfl rfl rfl rfl) ?_
 refine DOps.nil (by decide +kernel) ?_;exact rt hE
def Z36 (a0:TRef):Option Bool:=(Z38 a0).bind fun x3=>guardO ((decide ((0:Int)<((x3.FWraps.l.length:Nat):Int)))) (x3.FWraps.l[0]?) (0:Int) fun x6=>some ((decide ((0:Int)<((x3.FWraps.l.length:Nat):Int)))&&(decide (x6=(2:Int))))
theorem Z36_walk {a0:TRef}{r:Bool}(hE:Z36 a0=some r) (H:Heap) :ACalls Tryz.prog 145 [.agg (TRef.c a0)] H fun v h'=>v=.a (.d (.bool r))/\h'=H:=by
 unfold Z36 at hE;refine ACalls.oW 17 [.tmp 2] Tryz.call145 Tryz.func145 ?_;refine seqR (S BX (S As (nil ?_)));refine seqR (S Ld ?_);obtain⟨x3,gx3,hE⟩:=bO hE;refine Sc rfl rfl (Z38_walk gx3) ?_;refine Sl ?_;refine Sf ?_;refine nil ?_;refine freezeA 3 _ rfl Keeps.nil ?_;refine seqR (S Fv (S Ld ?_));refine sLen (f:=(intE .i64)) (s:=x3.FWraps) (TK rfl) rfl rfl rfl rfl fun hL5=>?_;refine S BI (S Mv (G0 Fv ?_))
 refine G1 11 rfl Ld ?_;obtain⟨x6,gx6,hE⟩:=gO hE;refine gC rfl rfl (fun hC=>ungdA (k:=12) rfl (idxMn (f:=(intE .i64)) (n:=0) (TK rfl) rfl (TK rfl) rfl rfl rfl (gx6 hC))) rfl ?_;refine G1 13 rfl Ld ?_;refine G1 14 rfl BI ?_;refine S PA (S As (nil ?_));exact rt hE
def Z35 (a0:TRef):Option (TRef×Bool):=(Z36 a0).bind fun x4=>bif (!x4) then(some ((TRef.mk ([]:Bs) (Sl.nil:Sl Int)),false)) else((Z38 a0).bind fun x8=>(Z41 x8).bind fun x9=>some (x9,true))
theorem Z35_walk {a0:TRef}{r:TRef×Bool}(hE:Z35 a0=some r) (H:Heap) :ACalls Tryz.prog 129 [.agg (TRef.c a0)] H fun v h'=>v=.tup [.agg (TRef.c r.1),.d (.bool r.2)]/\h'=H:=by
 unfold Z35 at hE;refine ACalls.oW 11 [.cell 2 41,.tmp 3] Tryz.call129 Tryz.func129 ?_;refine seqR (S BX ?_);refine Sl ?_;refine S As (nil ?_);refine seqK fun K2 hK2=>?_;refine seqR (S Ld ?_);obtain⟨x4,gx4,hE⟩:=bO hE;refine Sc rfl rfl (Z36_walk gx4) ?_;refine S NB (nil ?_);refine cE hE (fun hc5 hE=>?_) (fun hc5 hE=>?_)
 ·refine seqR (S BU ?_);refine Sf ?_;refine S As (nil ?_);exact rt hE
 refine sk hK2 ?_;clear hK2 K2;refine seqR (S Ld ?_);obtain⟨x8,gx8,hE⟩:=bO hE;refine Sc rfl rfl (Z38_walk gx8) ?_;obtain⟨x9,gx9,hE⟩:=bO hE;refine Sc rfl rfl (Z41_walk gx9) ?_;refine Sf ?_;refine S As (nil ?_);exact rt hE
def Z82_j2  :Option Bool:=some false
def Z82_l5 (a0:TDef) (a1:Bs) :Nat->Nat->Option Bool
 | 0,_=>none
 | n5+1,s5_6=>bif (decide (((s5_6:Nat):Int)<((a0.FMembers.l.length:Nat):Int))) then((a0.FMembers.l[s5_6]?).bind fun x13=>bif ((x13.FName==a1)) then(some true) else((Z82_l5 a0 a1 n5) (s5_6+1))) else(Z82_j2   )
def Z82 (a0:TDef) (a1:Bs):Option Bool:=Z82_l5 a0 a1 (a0.FMembers.l.length+1) 0
theorem Z82_walk {a0:TDef}{a1:Bs}{r:Bool}(hE:Z82 a0 a1=some r) (H:Heap) :ACalls Tryz.prog 78 [.agg (TDef.c a0),.d (.str a1)] H fun v h'=>v=.a (.d (.bool r))/\h'=H:=by
 unfold Z82 at hE;refine ACalls.oW 21 [.tmp 4] Tryz.call78 Tryz.func78 ?_;refine seqR (S BX (S As (nil ?_)));refine seqJH KeepsT.nil (fun(z:Unit)=>[]) (fun z=>H) (fun z=>Z82_j2 =some r) ?_ ?_
 ·intro K2 hK2;refine seqR (S As (nil ?_));refine block ?_;refine loopH (TA 1 (TA 2 KeepsT.nil)) (fun(z:Nat×Nat)=>[(5,.a (.d (.int .i64 ((z.2:Nat):Int))))]) (fun z=>H) (fun z=>z.1) (fun z=>Z82_l5 a0 a1 z.1 z.2=some r) ((a0.FMembers.l.length+1),0) hE Weak.toA ?_;rintro ⟨n5,s5_6⟩ hE K5 hK5;try dsimp only at hE
  cases n5 with
  | zero=>cases hE
  | succ n5 =>
    rw [Z82_l5] at hE;refine seqK fun K7 hK7=>?_;refine seqR (S Mv (S Fv (S Ld ?_)));refine sLen (f:=Z5.c) (s:=a0.FMembers) (TK rfl) rfl rfl rfl rfl fun hL9=>?_;refine S BI (nil ?_);refine cE hE (fun hc10 hE=>?_) (fun hc10 hE=>?_)
    ·try dsimp only at hc10
     have hf10:=of_decide_eq_true hc10;refine sk hK7 ?_;clear hK7 K7;refine seqK fun K11 hK11=>?_;refine block ?_;refine seqR (S Fv (S Ld (S Mv ?_)));obtain⟨x13,gx13,hE⟩:=bO hE;refine S (ix Z5.c s5_6 gx13) (S Fv (S Ld (S Mv (S BS (nil ?_)))));refine cE hE (fun hc14 hE=>?_) (fun hc14 hE=>?_)
     ·refine seqR (S As (nil ?_));exact rt hE
     refine sk hK11 ?_;clear hK11 K11;refine region ?_;refine S Mv ?_;refine SI ?_;refine S As (nil ?_);exact hK5 _ (n5,(s5_6+1)) Weak.toA hE (Nat.lt_succ_self _)
    refine AWp.exit ?_;exact hK2 _ () Weak.toA hE
 rintro _ hE;try dsimp only at hE
 unfold Z82_j2 at hE;refine seqR (S As (nil ?_));exact rt hE
def Z79_j2  :Option Bool:=some true
def Z79_l5 (a0:TDoc) (a1:Int) :Nat->Int->Option Bool
 | 0,_=>none
 | n5+1,s5_6=>bif (decide (s5_6<a1)) then((idxC a0.FDefs.l s5_6).bind fun x12=>(idxC a0.FDefs.l a1).bind fun x13=>bif ((x12.FName==x13.FName)) then(some false) else((addC s5_6 (1:Int)).bind fun x16=>(Z79_l5 a0 a1 n5) x16)) else(Z79_j2   )
def Z79 (a0:TDoc) (a1:Int):Option Bool:=Z79_l5 a0 a1 F0 (0:Int)
theorem Z79_walk {a0:TDoc}{a1:Int}{r:Bool}(hE:Z79 a0 a1=some r) (H:Heap) :ACalls Tryz.prog 146 [.agg (TDoc.c a0),.d (.int .i64 a1)] H fun v h'=>v=.a (.d (.bool r))/\h'=H:=by
 unfold Z79 at hE;refine ACalls.oW 24 [.tmp 4] Tryz.call146 Tryz.func146 ?_;refine seqR (S BX (S As (nil ?_)));refine seqJH KeepsT.nil (fun(z:Unit)=>[]) (fun z=>H) (fun z=>Z79_j2 =some r) ?_ ?_
 ·intro K2 hK2;refine seqR (S As (nil ?_));refine block ?_;refine loopH (TA 1 (TA 2 KeepsT.nil)) (fun(z:Nat×Int)=>[(5,.a (.d (.int .i64 z.2)))]) (fun z=>H) (fun z=>z.1) (fun z=>Z79_l5 a0 a1 z.1 z.2=some r) (F0,(0:Int)) hE Weak.toA ?_;rintro ⟨n5,s5_6⟩ hE K5 hK5;try dsimp only at hE
  cases n5 with
  | zero=>cases hE
  | succ n5 =>
    rw [Z79_l5] at hE;refine seqK fun K7 hK7=>?_;refine seqR (S Mv (S Mv (S BI (nil ?_))));refine cE hE (fun hc9 hE=>?_) (fun hc9 hE=>?_)
    ·refine sk hK7 ?_;clear hK7 K7;refine seqK fun K10 hK10=>?_;refine block ?_;refine AWp.seqD (Sd Fv (Sd Ld (Sd Mv ?_)));obtain⟨x12,gx12,hE⟩:=bO hE;refine DOps.s0 (idxM (f:=TDef.c) (TK rfl) rfl (TK rfl) rfl rfl rfl gx12) rfl ?_;refine Sd Fv (Sd Ld (Sd Fv (Sd Ld (Sd Mv ?_))));obtain⟨x13,gx13,hE⟩:=bO hE;refine DOps.s0 (idxM (f:=TDef.c) (TK rfl) rfl (TK rfl) rfl rfl rfl gx13) rfl ?_;refine Sd Fv (Sd Ld (Sd BS ?_))
     refine DOps.nil (by decide +kernel) ?_;refine cE hE (fun hc14 hE=>?_) (fun hc14 hE=>?_)
     ·refine seqR (S As (nil ?_));exact rt hE
     refine sk hK10 ?_;clear hK10 K10;refine region ?_;refine S Mv ?_;obtain⟨x16,gx16,hE⟩:=bO hE;refine s0 (addM rfl rfl gx16) rfl ?_;refine S As (nil ?_);exact hK5 _ (n5,x16) Weak.toA hE (Nat.lt_succ_self _)
    refine AWp.exit ?_;exact hK2 _ () Weak.toA hE
 rintro _ hE;try dsimp only at hE
 unfold Z79_j2 at hE;refine seqR (S As (nil ?_));exact rt hE
def Z76_j5  (s5_6:(Sl Bs)):Option (Sl Bs):=some s5_6
def Z76_j16 (s8_11:Nat) (k_next_9:(Sl Bs)->Nat->Option (Sl Bs)) (s5_17:(Sl Bs)):Option (Sl Bs):=k_next_9 s5_17 (s8_11+1)
def Z76_l9 (a0:TDoc) (a1:Bs) (x4:(TDef×Bool)) :Nat->(Sl Bs)->Nat->Option (Sl Bs)
 | 0,_,_=>none
 | n9+1,s5_10,s8_11=>bif ((decide (((s8_11:Nat):Int)<((a0.FDefs.l.length:Nat):Int)))&&x4.2) then((a0.FDefs.l[s8_11]?).bind fun x19=>guardO (!(!decide (x19.FKind=(1:Int)))) (Z79 a0 ((s8_11:Nat):Int)) false fun x22=>bif ((!decide (x19.FKind=(1:Int)))||(!x22)) then(Z76_j16 s8_11 ((Z76_l9 a0 a1 x4 n9)) s5_10) else(guardO ((!((decide (x4.1.FKind=(1:Int)))&&((x19.FName==a1)))&&(decide (x4.1.FKind=(2:Int))))) (Z80 x19.FImplements a1) false fun x26=>guardO ((!(((decide (x4.1.FKind=(1:Int)))&&((x19.FName==a1)))||((decide (x4.1.FKind=(2:Int)))&&x26))&&(decide (x4.1.FKind=(3:Int))))) (Z82 x4.1 x19.FName) false fun x28=>bif ((((decide (x4.1.FKind=(1:Int)))&&((x19.FName==a1)))||((decide (x4.1.FKind=(2:Int)))&&x26))||((decide (x4.1.FKind=(3:Int)))&&x28)) then((appC 16 s5_10 (⟨false,[x19.FName]⟩:Sl Bs)).bind fun x31=>Z76_j16 s8_11 ((Z76_l9 a0 a1 x4 n9)) x31) else(Z76_j16 s8_11 ((Z76_l9 a0 a1 x4 n9)) s5_10))) else(Z76_j5   s5_10)
def Z76 (a0:TDoc) (a1:Bs):Option (Sl Bs):=(Z54 a0 a1).bind fun x4=>Z76_l9 a0 a1 x4 (a0.FDefs.l.length+1) (Sl.nil:Sl Bs) 0
theorem Z76_walk {a0:TDoc}{a1:Bs}{r:Sl Bs}(hE:Z76 a0 a1=some r) (H:Heap) :ACalls Tryz.prog 132 [.agg (TDoc.c a0),.d (.str a1)] H fun v h'=>v=.a (.d (Sl.d 1 strE none r))/\h'=H:=by
 unfold Z76 at hE;refine ACalls.oW 81 [.tmp 4] Tryz.call132 Tryz.func132 ?_;refine AWp.tok 1 fun tk1 htk1=>?_;refine seqR (S BX ?_);refine s0 (assignNil (k':=1) rfl) rfl ?_;refine nil ?_;refine seqR (S As (nil ?_));refine AWp.nilTok 5 1 tk1 rfl hpG ?_;refine seqR (S Ld (S Mv ?_));obtain⟨x4,gx4,hE⟩:=bO hE;refine Sc rfl rfl (Z54_walk gx4) ?_;refine S Mv (S EX (S EX ?_));refine Sl ?_;refine Sf ?_;refine S As (nil ?_)
 refine freezeA 6 _ rfl (KA 1 (KA 2 (KA 5 (KA 7 Keeps.nil)))) ?_;refine seqJH KeepsT.nil (fun(z:(Sl Bs))=>[(5,.a (.d (Sl.d 1 strE (some tk1) z)))]) (fun z=>(H.set tk1 (some (.tok 1 z.l.length)))) (fun z=>Z76_j5 z=some r) ?_ ?_
 ·intro K5 hK5;refine seqR (S As (nil ?_));refine block ?_;refine loopH (TA 1 (TA 2 (TA 6 (TA 7 KeepsT.nil)))) (fun(z:Nat×(Sl Bs)×Nat)=>[(5,.a (.d (Sl.d 1 strE (some tk1) z.2.1))),(8,.a (.d (.int .i64 ((z.2.2:Nat):Int))))]) (fun z=>(H.set tk1 (some (.tok 1 z.2.1.l.length)))) (fun z=>z.1) (fun z=>Z76_l9 a0 a1 x4 z.1 z.2.1 z.2.2=some r) ((a0.FDefs.l.length+1),(Sl.nil:Sl Bs),0) hE Weak.toA ?_;rintro ⟨n9,s5_10,s8_11⟩ hE K9 hK9
  try dsimp only at hE
  cases n9 with
  | zero=>cases hE
  | succ n9 =>
    rw [Z76_l9] at hE;refine seqK fun K12 hK12=>?_;refine seqR (S Mv (S Fv (S Ld ?_)));refine sLen (f:=TDef.c) (s:=a0.FDefs) (TK rfl) rfl rfl rfl rfl fun hL14=>?_;refine S BI (S Mv (G0 Mv (S PA (nil ?_))));refine cE hE (fun hc15 hE=>?_) (fun hc15 hE=>?_)
    ·try dsimp only at hc15
     have hf15:=of_decide_eq_true (and_left hc15);refine sk hK12 ?_;clear hK12 K12;refine seqJH (TA 1 (TA 2 (TA 6 (TA 7 (TA 8 KeepsT.nil))))) (fun(z:(Sl Bs))=>[(5,.a (.d (Sl.d 1 strE (some tk1) z)))]) (fun z=>(H.set tk1 (some (.tok 1 z.l.length)))) (fun z=>Z76_j16 s8_11 ((Z76_l9 a0 a1 x4 n9)) z=some r) ?_ ?_
     ·intro K16 hK16;refine block ?_;refine seqR (S Fv (S Ld (S Mv ?_)));obtain⟨x19,gx19,hE⟩:=bO hE;refine S (ix TDef.c s8_11 gx19) (S Ld ?_);refine Sl ?_;refine Sf ?_;refine nil ?_;refine freezeA 9 _ rfl (KA 1 (KA 2 (KA 5 (KA 6 (KA 7 (KA 8 Keeps.nil)))))) ?_;refine seqK fun K20 hK20=>?_;refine seqR (S Fv (S Ld (S BI (S Mv (G0 Ld (G0 Mv ?_))))));obtain⟨x22,gx22,hE⟩:=gO hE;refine Gc2 36 37 rfl rfl rfl rfl rfl rfl (fun hC=>Z79_walk (gx22 hC)) ?_
      refine G1 38 rfl NB ?_;refine S PO (nil ?_);refine cE hE (fun hc23 hE=>?_) (fun hc23 hE=>?_)
      ·refine AWp.exit ?_;exact hK16 _ s5_10 Weak.toA hE
      refine sk hK20 ?_;clear hK20 K20;refine seqR (S Fv (S Ld (S BI (S Mv (G0 Fv ?_)))));refine G1 45 rfl Ld ?_;refine G0 Mv ?_;refine G2 46 47 rfl rfl BS ?_;refine S PA (S As (nil ?_));refine seqR (S Mv (S Mv (G0 Fv ?_)));refine G1 52 rfl Ld ?_;refine G1 53 rfl BI ?_;refine G1 54 rfl Mv ?_;refine G0 Fv ?_;refine G1 56 rfl Ld ?_;refine G0 Mv ?_;obtain⟨x26,gx26,hE⟩:=gO hE;refine Gc2 57 58 rfl rfl rfl rfl rfl rfl (fun hC=>Z80_walk (gx26 hC)) ?_
      refine gC rfl rfl (fun hC=>ungdA (k:=55) rfl (pickAndA rfl rfl rfl)) rfl ?_;refine S PO (S As (nil ?_));refine seqR (S Mv (S Mv (G0 Fv ?_)));refine G1 64 rfl Ld ?_;refine G1 65 rfl BI ?_;refine G1 66 rfl Mv ?_;refine G0 Ld (G0 Fv ?_);refine G1 69 rfl Ld ?_;obtain⟨x28,gx28,hE⟩:=gO hE;refine Gc2 68 70 rfl rfl rfl rfl rfl rfl (fun hC=>Z82_walk (gx28 hC)) ?_;refine gC rfl rfl (fun hC=>ungdA (k:=67) rfl (pickAndA rfl rfl rfl)) rfl ?_
      refine S PO (S As (nil ?_));refine seqR (S Mv (nil ?_));refine cE hE (fun hc30 hE=>?_) (fun hc30 hE=>?_)
      ·refine region ?_;refine S Mv (S Fv (S Ld (S BV ?_)));obtain⟨x31,gx31,hE⟩:=bO hE;refine SH (am strE (TK rfl) rfl (TK rfl) (TK rfl) gx31) ?_;refine hq (H.set tk1 (some (.tok 1 x31.l.length))) ?_;refine S As (nil ?_);exact hK16 _ x31 Weak.toA hE
      refine AWp.skip ?_;exact hK16 _ s5_10 Weak.toA hE
     rintro s5_17 hE;try dsimp only at hE
     unfold Z76_j16 at hE;refine region ?_;refine S Mv ?_;refine SI ?_;refine S As (nil ?_);exact hK9 _ (n9,s5_17,(s8_11+1)) Weak.toA hE (Nat.lt_succ_self _)
    refine AWp.exit ?_;exact hK5 _ s5_10 Weak.toA hE
 rintro s5_6 hE;try dsimp only at hE
 unfold Z76_j5 at hE;refine seqR (S Mv (S As (nil ?_)));refine AWp.dropTok 4 rfl ?_;refine AWp.ret ?_;repeat (first|refine xBlock_ret ?_|refine xThen_ret ?_)
 obtain rfl:=Option.some.inj hE;refine retQ.retF H rfl ⟨rfl,rfl⟩ ?_
 first|exact Heap.sub_set htk1|(simp only [Heap.set_set]; exact Heap.sub_set htk1)
def Z74 (a0:TDoc) (a1:Bs) (a2:Bs):Option Bool:=(Z76 a0 a2).bind fun x3=>(Z80 x3 a1).bind fun x4=>some x4
theorem Z74_walk {a0:TDoc}{a1 a2:Bs}{r:Bool}(hE:Z74 a0 a1 a2=some r) (H:Heap) :ACalls Tryz.prog 130 [.agg (TDoc.c a0),.d (.str a1),.d (.str a2)] H fun v h'=>v=.a (.d (.bool r))/\h'=H:=by
 unfold Z74 at hE;refine ACalls.oW 12 [.tmp 6] Tryz.call130 Tryz.func130 ?_;refine seqR (S BX (S As (nil ?_)));refine seqR (S Ld (S Mv ?_));obtain⟨x3,gx3,hE⟩:=bO hE;refine Sc rfl rfl (Z76_walk gx3) ?_;refine S Mv ?_;obtain⟨x4,gx4,hE⟩:=bO hE;refine Sc rfl rfl (Z80_walk gx4) ?_;refine S As (nil ?_);exact rt hE
end Go.Proofs

namespace Go.Proofs
open Go Go.Ab
open AOps Cert AWp Keeps KeepsT
variable {lou:Lou}
def Z77_n:Nat->TDoc->TRef->TRef->Option Bool
 | 0,_,_,_=>none
 | n+1,a0,a1,a2=>(Z37 a2).bind fun x4=>bif x4 then((Z37 a1).bind fun x7=>guardO (x7) (Z38 a1) TRef.zero fun x8=>guardO (x7) (Z38 a2) TRef.zero fun x9=>guardO (x7) ((Z77_n n) a0 x8 x9) false fun x10=>some (x7&&x10)) else((Z37 a1).bind fun x13=>bif x13 then((Z38 a1).bind fun x16=>((Z77_n n) a0 x16 a2).bind fun x17=>some x17) else((Z35 a1).bind fun x19=>(Z35 a2).bind fun x21=>bif (x19.2&&x21.2) then(((Z77_n n) a0 x19.1 x21.1).bind fun x26=>some x26) else(guardO ((((!x19.2)&&(!x21.2))&&!((a1.FName==a2.FName)))) (Z74 a0 a1.FName a2.FName) false fun x28=>some (((!x19.2)&&(!x21.2))&&(((a1.FName==a2.FName))||x28)))))
theorem Z77_step (n:Nat) (ih_108:∀{a0:TDoc}{a1 a2:TRef}{r:Bool},Z77_n n a0 a1 a2=some r->∀(H:Heap),ACalls Tryz.prog 108 [.agg (TDoc.c a0),.agg (TRef.c a1),.agg (TRef.c a2)] H fun v h'=>v=.a (.d (.bool r))/\h'=H):∀{a0:TDoc}{a1 a2:TRef}{r:Bool},Z77_n (n+1) a0 a1 a2=some r->∀(H:Heap),ACalls Tryz.prog 108 [.agg (TDoc.c a0),.agg (TRef.c a1),.agg (TRef.c a2)] H fun v h'=>v=.a (.d (.bool r))/\h'=H:=by
 intro a0 a1 a2   r hE H ;rw [Z77_n] at hE;refine ACalls.oW 69 [.tmp 6] Tryz.call108 Tryz.func108 ?_;refine seqR (S BX (S BX (S BX (S As (nil ?_)))));refine seqK fun K2 hK2=>?_;refine seqR (S Ld ?_);obtain⟨x4,gx4,hE⟩:=bO hE;refine Sc rfl rfl (Z37_walk gx4) ?_;refine nil ?_;refine cE hE (fun hc5 hE=>?_) (fun hc5 hE=>?_)
 ·refine AWp.seqD (Sd Ld ?_);obtain⟨x7,gx7,hE⟩:=bO hE;refine Scd rfl rfl (Z37_walk gx7) ?_;refine Sd Mv (G0d Ld (G0d Ld ?_));obtain⟨x8,gx8,hE⟩:=gO hE;refine Gc1d 17 rfl rfl rfl rfl rfl (fun hC=>Z38_walk (gx8 hC)) ?_;refine G0d Ld ?_;obtain⟨x9,gx9,hE⟩:=gO hE;refine Gc1d 19 rfl rfl rfl rfl rfl (fun hC=>Z38_walk (gx9 hC)) ?_;obtain⟨x10,gx10,hE⟩:=gO hE;refine DOps.gC rfl rfl (fun hC=>ungdA (k:=16) rfl (ungdA (k:=18) rfl (ungdA (k:=20) rfl (callP rfl rfl (fun H=>ih_108 (gx10 hC) H))))) rfl ?_
  refine Sd PA (Sd As ?_);refine DOps.nil (by decide +kernel) ?_;exact rt hE
 refine sk hK2 ?_;clear hK2 K2;refine seqK fun K11 hK11=>?_;refine seqR (S Ld ?_);obtain⟨x13,gx13,hE⟩:=bO hE;refine Sc rfl rfl (Z37_walk gx13) ?_;refine nil ?_;refine cE hE (fun hc14 hE=>?_) (fun hc14 hE=>?_)
 ·refine AWp.seqD (Sd Ld (Sd Ld ?_));obtain⟨x16,gx16,hE⟩:=bO hE;refine Scd rfl rfl (Z38_walk gx16) ?_;refine Sd Ld ?_;obtain⟨x17,gx17,hE⟩:=bO hE;refine Scd rfl rfl (ih_108 gx17) ?_;refine Sd As ?_;refine DOps.nil (by decide +kernel) ?_;exact rt hE
 refine sk hK11 ?_;clear hK11 K11;refine seqR (S Ld ?_);obtain⟨x19,gx19,hE⟩:=bO hE;refine Sc rfl rfl (Z35_walk gx19) ?_;refine S Mv (S EX (S EX ?_));refine Sl ?_;refine Sf ?_;refine S As (nil ?_);refine freezeA 7 _ rfl (KA 3 (KA 4 (KA 5 (KA 8 Keeps.nil)))) ?_;refine seqR (S Ld ?_);obtain⟨x21,gx21,hE⟩:=bO hE;refine Sc rfl rfl (Z35_walk gx21) ?_;refine S Mv (S EX (S EX ?_));refine Sl ?_;refine Sf ?_
 refine S As (nil ?_);refine freezeA 9 _ rfl (KA 3 (KA 4 (KA 5 (KA 7 (KA 8 (KA 10 Keeps.nil)))))) ?_;refine seqK fun K22 hK22=>?_;refine seqR (S Mv (S Mv (G0 Mv (S PA (nil ?_)))));refine cE hE (fun hc24 hE=>?_) (fun hc24 hE=>?_)
 ·refine seqR (S Ld (S Ld (S Ld ?_)));obtain⟨x26,gx26,hE⟩:=bO hE;refine Sc rfl rfl (ih_108 gx26) ?_;refine S As (nil ?_);exact rt hE
 refine sk hK22 ?_;clear hK22 K22;refine seqR (S Mv (S NB (S Mv (G0 Mv ?_))));refine G1 51 rfl NB ?_;refine S PA (S Mv (G0 Fv ?_));refine G1 55 rfl Ld ?_;refine G0 Fv ?_;refine G1 57 rfl Ld ?_;refine G2 56 58 rfl rfl BS ?_;refine G1 59 rfl Mv ?_;refine G0 Ld (G0 Fv ?_);refine G1 62 rfl Ld ?_;refine G0 Fv ?_;refine G1 64 rfl Ld ?_;obtain⟨x28,gx28,hE⟩:=gO hE;refine gC rfl rfl (fun hC=>ungdA (k:=61) rfl (ungdA (k:=63) rfl (ungdA (k:=65) rfl (callP rfl rfl (fun H=>Z74_walk (gx28 hC) H))))) rfl ?_
 refine gC rfl rfl (fun hC=>ungdA (k:=60) rfl (pickOrA rfl rfl rfl)) rfl ?_;refine S PA (S As (nil ?_));exact rt hE
theorem Z77_all:∀(n:Nat),(∀{a0:TDoc}{a1 a2:TRef}{r:Bool},Z77_n n a0 a1 a2=some r->∀(H:Heap),ACalls Tryz.prog 108 [.agg (TDoc.c a0),.agg (TRef.c a1),.agg (TRef.c a2)] H fun v h'=>v=.a (.d (.bool r))/\h'=H)
 | 0=>fun hE=>by first|cases hE|(rw [Z77_n] at hE; cases hE)
 | n+1=>Z77_step n (Z77_all n)
def Z77 (a0:TDoc) (a1:TRef) (a2:TRef):Option Bool:=Z77_n F0 a0 a1 a2
theorem Z77_walk {a0:TDoc}{a1 a2:TRef}{r:Bool}(hE:Z77 a0 a1 a2=some r) (H:Heap) :ACalls Tryz.prog 108 [.agg (TDoc.c a0),.agg (TRef.c a1),.agg (TRef.c a2)] H fun v h'=>v=.a (.d (.bool r))/\h'=H:=(Z77_all F0) hE H 
def Z42_j8  :Option Bool:=some true
def Z42_l11 (a0:(Sl Int)) (a1:(Sl Int)) :Nat->Nat->Option Bool
 | 0,_=>none
 | n11+1,s5_12=>bif (decide (((s5_12:Nat):Int)<((a0.l.length:Nat):Int))) then((a0.l[s5_12]?).bind fun x19=>(a1.l[s5_12]?).bind fun x20=>bif (!decide (x19=x20)) then(some false) else((Z42_l11 a0 a1 n11) (s5_12+1))) else(Z42_j8   )
def Z42 (a0:(Sl Int)) (a1:(Sl Int)):Option Bool:=bif (!decide (((a0.l.length:Nat):Int)=((a1.l.length:Nat):Int))) then(some false) else(Z42_l11 a0 a1 (a0.l.length+1) 0)
theorem Z42_walk {a0 a1:Sl Int}{w0 w1:Option Nat}{r:Bool}(hE:Z42 a0 a1=some r) (H:Heap) :ACalls Tryz.prog 131 [.d (Sl.d 1 (intE .i64) w0 a0),.d (Sl.d 1 (intE .i64) w1 a1)] H fun v h'=>v=.a (.d (.bool r))/\h'=H:=by
 unfold Z42 at hE;refine ACalls.oW 26 [.tmp 4] Tryz.call131 Tryz.func131 ?_;refine seqR (S As (nil ?_));refine seqK fun K2 hK2=>?_;refine seqR (S Mv ?_);refine sLen (f:=(intE .i64)) (s:=a0) (TK rfl) rfl rfl rfl rfl fun hL4=>?_;refine S Mv ?_;refine sLen (f:=(intE .i64)) (s:=a1) (TK rfl) rfl rfl rfl rfl fun hL5=>?_;refine S BI (nil ?_);refine cE hE (fun hc6 hE=>?_) (fun hc6 hE=>?_)
 ·refine seqR (S As (nil ?_));exact rt hE
 refine sk hK2 ?_;clear hK2 K2;refine seqJH KeepsT.nil (fun(z:Unit)=>[]) (fun z=>H) (fun z=>Z42_j8 =some r) ?_ ?_
 ·intro K8 hK8;refine seqR (S As (nil ?_));refine block ?_;refine loopH (TA 0 (TA 1 KeepsT.nil)) (fun(z:Nat×Nat)=>[(5,.a (.d (.int .i64 ((z.2:Nat):Int))))]) (fun z=>H) (fun z=>z.1) (fun z=>Z42_l11 a0 a1 z.1 z.2=some r) ((a0.l.length+1),0) hE Weak.toA ?_;rintro ⟨n11,s5_12⟩ hE K11 hK11;try dsimp only at hE
  cases n11 with
  | zero=>cases hE
  | succ n11 =>
    rw [Z42_l11] at hE;refine seqK fun K13 hK13=>?_;refine seqR (S Mv (S Mv ?_));refine sLen (f:=(intE .i64)) (s:=a0) (TK rfl) rfl rfl rfl rfl fun hL15=>?_;refine S BI (nil ?_);refine cE hE (fun hc16 hE=>?_) (fun hc16 hE=>?_)
    ·try dsimp only at hc16
     have hf16:=of_decide_eq_true hc16;refine sk hK13 ?_;clear hK13 K13;refine seqK fun K17 hK17=>?_;refine block ?_;refine AWp.seqD (Sd Mv (Sd Mv ?_));obtain⟨x19,gx19,hE⟩:=bO hE;refine Sd (ix (intE .i64) s5_12 gx19) ?_;refine Sd Ld (Sd Mv (Sd Mv ?_));obtain⟨x20,gx20,hE⟩:=bO hE;refine Sd (ix (intE .i64) s5_12 gx20) ?_;refine Sd Ld (Sd BI ?_);refine DOps.nil (by decide +kernel) ?_;refine cE hE (fun hc21 hE=>?_) (fun hc21 hE=>?_)
     ·refine seqR (S As (nil ?_));exact rt hE
     refine sk hK17 ?_;clear hK17 K17;refine region ?_;refine S Mv ?_;refine SI ?_;refine S As (nil ?_);exact hK11 _ (n11,(s5_12+1)) Weak.toA hE (Nat.lt_succ_self _)
    refine AWp.exit ?_;exact hK8 _ () Weak.toA hE
 rintro _ hE;try dsimp only at hE
 unfold Z42_j8 at hE;refine seqR (S As (nil ?_));exact rt hE
def Z40 (a0:TRef) (a1:TRef):Option Bool:=guardO (((a0.FName==a1.FName))) (Z42 a0.FWraps a1.FWraps) false fun x3=>some (((a0.FName==a1.FName))&&x3)
theorem Z40_walk {a0 a1:TRef}{r:Bool}(hE:Z40 a0 a1=some r) (H:Heap) :ACalls Tryz.prog 109 [.agg (TRef.c a0),.agg (TRef.c a1)] H fun v h'=>v=.a (.d (.bool r))/\h'=H:=by
 unfold Z40 at hE;refine ACalls.oW 17 [.tmp 4] Tryz.call109 Tryz.func109 ?_;refine seqR (S BX (S BX (S As (nil ?_))));refine seqR (S Fv (S Ld (S Fv (S Ld (S BS (S Mv (G0 Fv ?_)))))));refine G1 11 rfl Ld ?_;refine G0 Fv ?_;refine G1 13 rfl Ld ?_;obtain⟨x3,gx3,hE⟩:=gO hE;refine Gc2 12 14 rfl rfl rfl rfl rfl rfl (fun hC=>Z42_walk (gx3 hC)) ?_;refine S PA (S As (nil ?_));exact rt hE
def Z78_j16  (s10_17:(Sl Z1)):Option (Sl Z1):=some s10_17
def Z78_j27 (s14_22:Nat) (k_next_20:(Sl Z1)->Nat->Option (Sl Z1)) (s10_28:(Sl Z1)):Option (Sl Z1):=k_next_20 s10_28 (s14_22+1)
def Z78_l20 (a2:Z2) (x4:Bs) (x6:(Z2×Bool)) :Nat->(Sl Z1)->Nat->Option (Sl Z1)
 | 0,_,_=>none
 | n20+1,s10_21,s14_22=>bif (decide (((s14_22:Nat):Int)<((x6.1.FArgs.l.length:Nat):Int))) then((x6.1.FArgs.l[s14_22]?).bind fun x30=>(Z55 a2.FArgs x30.FName).bind fun x31=>guardO ((!x31.2)) (x6.1.FArgs.l[s14_22]?) Z4.zero fun x33=>guardO ((!x31.2)) (Z37 x33.FType) false fun x34=>guardO (((!x31.2)&&x34)) (x6.1.FArgs.l[s14_22]?) Z4.zero fun x35=>bif (((!x31.2)&&x34)&&(!x35.FHas)) then((catC x4 ([40]:Bs)).bind fun x37=>(x6.1.FArgs.l[s14_22]?).bind fun x38=>(catC x37 x38.FName).bind fun x39=>(catC x39 ([41]:Bs)).bind fun x40=>(appC 24 s10_21 (⟨false,[(Z1.mk (22:Int) x40)]⟩:Sl Z1)).bind fun x41=>Z78_j27 s14_22 ((Z78_l20 a2 x4 x6 n20)) x41) else(Z78_j27 s14_22 ((Z78_l20 a2 x4 x6 n20)) s10_21)) else(Z78_j16   s10_21)
def Z78_j14 (a2:Z2) (x4:Bs) (x6:(Z2×Bool))  (s10_15:(Sl Z1)):Option (Sl Z1):=Z78_l20 a2 x4 x6 (x6.1.FArgs.l.length+1) s10_15 0
def Z78_j50 (s11_45:Nat) (k_next_43:(Sl Z1)->Nat->Option (Sl Z1)) (s10_51:(Sl Z1)):Option (Sl Z1):=k_next_43 s10_51 (s11_45+1)
def Z78_l43 (a2:Z2) (x4:Bs) (x6:(Z2×Bool)) :Nat->(Sl Z1)->Nat->Option (Sl Z1)
 | 0,_,_=>none
 | n43+1,s10_44,s11_45=>bif (decide (((s11_45:Nat):Int)<((a2.FArgs.l.length:Nat):Int))) then((a2.FArgs.l[s11_45]?).bind fun x53=>(Z55 x6.1.FArgs x53.FName).bind fun x54=>guardO (!(!x54.2)) (a2.FArgs.l[s11_45]?) Z4.zero fun x56=>guardO (!(!x54.2)) (Z40 x54.1.FType x56.FType) false fun x57=>bif ((!x54.2)||(!x57)) then((catC x4 ([40]:Bs)).bind fun x59=>(a2.FArgs.l[s11_45]?).bind fun x60=>(catC x59 x60.FName).bind fun x61=>(catC x61 ([41]:Bs)).bind fun x62=>(appC 24 s10_44 (⟨false,[(Z1.mk (22:Int) x62)]⟩:Sl Z1)).bind fun x63=>Z78_j50 s11_45 ((Z78_l43 a2 x4 x6 n43)) x63) else(Z78_j50 s11_45 ((Z78_l43 a2 x4 x6 n43)) s10_44)) else(Z78_j14 a2 x4 x6  s10_44)
def Z78_j12 (a2:Z2) (x4:Bs) (x6:(Z2×Bool))  (s10_13:(Sl Z1)):Option (Sl Z1):=Z78_l43 a2 x4 x6 (a2.FArgs.l.length+1) s10_13 0
def Z78 (a0:TDoc) (a1:TDef) (a2:Z2):Option (Sl Z1):=(catC a1.FName ([46]:Bs)).bind fun x3=>(catC x3 a2.FName).bind fun x4=>(Z53 a1 a2.FName).bind fun x6=>bif (!x6.2) then(some (⟨false,[(Z1.mk (20:Int) x4)]⟩:Sl Z1)) else((Z77 a0 x6.1.FType a2.FType).bind fun x65=>bif (!x65) then((appC 24 (Sl.nil:Sl Z1) (⟨false,[(Z1.mk (10:Int) x4)]⟩:Sl Z1)).bind fun x67=>Z78_j12 a2 x4 x6  x67) else(Z78_j12 a2 x4 x6  (Sl.nil:Sl Z1)))
theorem Z78_walk {a0:TDoc}{a1:TDef}{a2:Z2}{r:Sl Z1}(hE:Z78 a0 a1 a2=some r) (H:Heap) :ACalls Tryz.prog 77 [.agg (TDoc.c a0),.agg (TDef.c a1),.agg (Z2.c a2)] H fun v h'=>v=.a (.d (Sl.d 2 Z1.c none r))/\h'=H:=by
 unfold Z78 at hE;refine ACalls.oW 148 [.tmp 6] Tryz.call77 Tryz.func77 ?_;refine AWp.tok 2 fun tk1 htk1=>?_;refine seqR (S BX (S BX (S BX ?_)));refine s0 (assignNil (k':=2) rfl) rfl ?_;refine nil ?_;refine seqR (S Fv (S Ld ?_));obtain⟨x3,gx3,hE⟩:=bO hE;refine s0 (catM rfl rfl gx3) rfl ?_;refine S Fv (S Ld ?_);obtain⟨x4,gx4,hE⟩:=bO hE;refine s0 (catM rfl rfl gx4) rfl ?_;refine S As (nil ?_);refine seqR (S Ld (S Fv (S Ld ?_)))
 obtain⟨x6,gx6,hE⟩:=bO hE;refine Sc rfl rfl (Z53_walk gx6) ?_;refine S Mv (S EX (S EX ?_));refine Sl ?_;refine Sf ?_;refine S As (nil ?_);refine freezeA 8 _ rfl (KA 3 (KA 5 (KA 7 (KA 9 Keeps.nil)))) ?_;refine seqK fun K7 hK7=>?_;refine seqR (S Mv (S NB (nil ?_)));refine cE hE (fun hc9 hE=>?_) (fun hc9 hE=>?_)
 ·refine seqR (S Mv (S BU (S BV (S As (nil ?_)))));refine AWp.ret ?_;repeat (first|refine xBlock_ret ?_|refine xThen_ret ?_)
  obtain rfl:=Option.some.inj hE;refine retQ.retF H rfl ⟨rfl,rfl⟩ ?_
  first|exact Heap.sub_set htk1|(simp only [Heap.set_set]; exact Heap.sub_set htk1)
 refine sk hK7 ?_;clear hK7 K7;refine seqR (S As (nil ?_));refine AWp.nilTok 10 2 tk1 rfl hpG ?_;refine seqJH (TA 5 (TA 7 (TA 8 KeepsT.nil))) (fun(z:(Sl Z1))=>[(10,.a (.d (Sl.d 2 Z1.c (some tk1) z)))]) (fun z=>(H.set tk1 (some (.tok 2 z.l.length)))) (fun z=>Z78_j12 a2 x4 x6 z=some r) ?_ ?_
 ·intro K12 hK12;refine seqR (S Ld (S Fv (S Ld (S Fv (S Ld ?_)))));obtain⟨x65,gx65,hE⟩:=bO hE;refine Sc rfl rfl (Z77_walk gx65) ?_;refine S NB (nil ?_);refine cE hE (fun hc66 hE=>?_) (fun hc66 hE=>?_)
  ·refine region ?_;refine S Mv (S Mv (S BU (S BV ?_)));obtain⟨x67,gx67,hE⟩:=bO hE;refine SH (am Z1.c (TK rfl) rfl (TK rfl) (TK rfl) gx67) ?_;refine hq (H.set tk1 (some (.tok 2 x67.l.length))) ?_;refine S As (nil ?_);exact hK12 _ x67 Weak.toA hE
  refine AWp.skip ?_;exact hK12 _ (Sl.nil:Sl Z1) Weak.toA hE
 rintro s10_13 hE;try dsimp only at hE
 unfold Z78_j12 at hE;refine seqJH (TA 5 (TA 7 (TA 8 KeepsT.nil))) (fun(z:(Sl Z1))=>[(10,.a (.d (Sl.d 2 Z1.c (some tk1) z)))]) (fun z=>(H.set tk1 (some (.tok 2 z.l.length)))) (fun z=>Z78_j14 a2 x4 x6 z=some r) ?_ ?_
 ·intro K14 hK14;refine seqR (S As (nil ?_));refine block ?_;refine loopH (TA 5 (TA 7 (TA 8 KeepsT.nil))) (fun(z:Nat×(Sl Z1)×Nat)=>[(10,.a (.d (Sl.d 2 Z1.c (some tk1) z.2.1))),(11,.a (.d (.int .i64 ((z.2.2:Nat):Int))))]) (fun z=>(H.set tk1 (some (.tok 2 z.2.1.l.length)))) (fun z=>z.1) (fun z=>Z78_l43 a2 x4 x6 z.1 z.2.1 z.2.2=some r) ((a2.FArgs.l.length+1),s10_13,0) hE Weak.toA ?_;rintro ⟨n43,s10_44,s11_45⟩ hE K43 hK43
  try dsimp only at hE
  cases n43 with
  | zero=>cases hE
  | succ n43 =>
    rw [Z78_l43] at hE;refine seqK fun K46 hK46=>?_;refine seqR (S Mv (S Fv (S Ld ?_)));refine sLen (f:=Z4.c) (s:=a2.FArgs) (TK rfl) rfl rfl rfl rfl fun hL48=>?_;refine S BI (nil ?_);refine cE hE (fun hc49 hE=>?_) (fun hc49 hE=>?_)
    ·try dsimp only at hc49
     have hf49:=of_decide_eq_true hc49;refine sk hK46 ?_;clear hK46 K46;refine seqJH (TA 5 (TA 7 (TA 8 (TA 11 KeepsT.nil)))) (fun(z:(Sl Z1))=>[(10,.a (.d (Sl.d 2 Z1.c (some tk1) z)))]) (fun z=>(H.set tk1 (some (.tok 2 z.l.length)))) (fun z=>Z78_j50 s11_45 ((Z78_l43 a2 x4 x6 n43)) z=some r) ?_ ?_
     ·intro K50 hK50;refine block ?_;refine AWp.seqD (Sd Fv (Sd Ld (Sd Fv (Sd Ld (Sd Mv ?_)))));obtain⟨x53,gx53,hE⟩:=bO hE;refine Sd (ix Z4.c s11_45 gx53) (Sd Fv (Sd Ld ?_));obtain⟨x54,gx54,hE⟩:=bO hE;refine Scd rfl rfl (Z55_walk gx54) ?_;refine Sd Mv (Sd EX (Sd EX ?_));refine DOps.sB (TK rfl) rfl rfl ?_ (by repeat (first|exact Snoc.nil|apply Snoc.cons));refine DOps.sLn (storeLFA (TK rfl) rfl rfl rfl rfl rfl) ?_
      refine Sd As ?_;refine DOps.nil (by decide +kernel) ?_;refine freezeA 12 _ rfl (KA 5 (KA 7 (KA 8 (KA 10 (KA 11 (KA 13 Keeps.nil)))))) ?_;refine AWp.seqD (Sd Mv (Sd NB (Sd Mv (G0d Fv ?_))));refine G1d 69 rfl Ld ?_;refine G0d Fv ?_;refine G1d 71 rfl Ld ?_;refine G0d Mv ?_;obtain⟨x56,gx56,hE⟩:=gO hE;refine DOps.gC rfl rfl (fun hC=>ungdA (k:=72) rfl (ungdA (k:=73) rfl (idxMn (f:=Z4.c) (n:=s11_45) (TK rfl) rfl (TK rfl) rfl rfl rfl (gx56 hC)))) rfl ?_
      refine G1d 74 rfl Fv ?_;refine G1d 75 rfl Ld ?_;obtain⟨x57,gx57,hE⟩:=gO hE;refine Gc2d 70 76 rfl rfl rfl rfl rfl rfl (fun hC=>Z40_walk (gx57 hC)) ?_;refine G1d 77 rfl NB ?_;refine Sd PO ?_;refine DOps.nil (by decide +kernel) ?_;refine cE hE (fun hc58 hE=>?_) (fun hc58 hE=>?_)
      ·refine region ?_;refine S Mv (S Mv ?_);obtain⟨x59,gx59,hE⟩:=bO hE;refine s0 (catM rfl rfl gx59) rfl ?_;refine S Fv (S Ld (S Mv ?_));obtain⟨x60,gx60,hE⟩:=bO hE;refine S (ix Z4.c s11_45 gx60) (S Fv (S Ld ?_));obtain⟨x61,gx61,hE⟩:=bO hE;refine s0 (catM rfl rfl gx61) rfl ?_;obtain⟨x62,gx62,hE⟩:=bO hE;refine s0 (catM rfl rfl gx62) rfl ?_;refine S BU (S BV ?_);obtain⟨x63,gx63,hE⟩:=bO hE;refine SH (am Z1.c (TK rfl) rfl (TK rfl) (TK rfl) gx63) ?_
       refine hq (H.set tk1 (some (.tok 2 x63.l.length))) ?_;refine S As (nil ?_);exact hK50 _ x63 Weak.toA hE
      refine AWp.skip ?_;exact hK50 _ s10_44 Weak.toA hE
     rintro s10_51 hE;try dsimp only at hE
     unfold Z78_j50 at hE;refine region ?_;refine S Mv ?_;refine SI ?_;refine S As (nil ?_);exact hK43 _ (n43,s10_51,(s11_45+1)) Weak.toA hE (Nat.lt_succ_self _)
    refine AWp.exit ?_;exact hK14 _ s10_44 Weak.toA hE
 rintro s10_15 hE;try dsimp only at hE
 unfold Z78_j14 at hE;refine seqJH KeepsT.nil (fun(z:(Sl Z1))=>[(10,.a (.d (Sl.d 2 Z1.c (some tk1) z)))]) (fun z=>(H.set tk1 (some (.tok 2 z.l.length)))) (fun z=>Z78_j16 z=some r) ?_ ?_
 ·intro K16 hK16;refine seqR (S As (nil ?_));refine block ?_;refine loopH (TA 5 (TA 7 (TA 8 KeepsT.nil))) (fun(z:Nat×(Sl Z1)×Nat)=>[(10,.a (.d (Sl.d 2 Z1.c (some tk1) z.2.1))),(14,.a (.d (.int .i64 ((z.2.2:Nat):Int))))]) (fun z=>(H.set tk1 (some (.tok 2 z.2.1.l.length)))) (fun z=>z.1) (fun z=>Z78_l20 a2 x4 x6 z.1 z.2.1 z.2.2=some r) ((x6.1.FArgs.l.length+1),s10_15,0) hE Weak.toA ?_;rintro ⟨n20,s10_21,s14_22⟩ hE K20 hK20
  try dsimp only at hE
  cases n20 with
  | zero=>cases hE
  | succ n20 =>
    rw [Z78_l20] at hE;refine seqK fun K23 hK23=>?_;refine seqR (S Mv (S Fv (S Ld ?_)));refine sLen (f:=Z4.c) (s:=x6.1.FArgs) (TK rfl) rfl rfl rfl rfl fun hL25=>?_;refine S BI (nil ?_);refine cE hE (fun hc26 hE=>?_) (fun hc26 hE=>?_)
    ·try dsimp only at hc26
     have hf26:=of_decide_eq_true hc26;refine sk hK23 ?_;clear hK23 K23;refine seqJH (TA 5 (TA 7 (TA 8 (TA 14 KeepsT.nil)))) (fun(z:(Sl Z1))=>[(10,.a (.d (Sl.d 2 Z1.c (some tk1) z)))]) (fun z=>(H.set tk1 (some (.tok 2 z.l.length)))) (fun z=>Z78_j27 s14_22 ((Z78_l20 a2 x4 x6 n20)) z=some r) ?_ ?_
     ·intro K27 hK27;refine block ?_;refine AWp.seqD (Sd Fv (Sd Ld (Sd Fv (Sd Ld (Sd Mv ?_)))));obtain⟨x30,gx30,hE⟩:=bO hE;refine Sd (ix Z4.c s14_22 gx30) (Sd Fv (Sd Ld ?_));obtain⟨x31,gx31,hE⟩:=bO hE;refine Scd rfl rfl (Z55_walk gx31) ?_;refine Sd Mv (Sd EX (Sd EX ?_));refine DOps.sB (TK rfl) rfl rfl ?_ (by repeat (first|exact Snoc.nil|apply Snoc.cons));refine DOps.sLn (storeLFA (TK rfl) rfl rfl rfl rfl rfl) ?_
      refine Sd As ?_;refine DOps.nil (by decide +kernel) ?_;refine freezeA 15 _ rfl (KA 5 (KA 7 (KA 8 (KA 10 (KA 14 (KA 16 Keeps.nil)))))) ?_;refine seqR (S Mv (S NB (S Mv (G0 Fv ?_))));refine G1 116 rfl Ld ?_;refine G0 Mv ?_;obtain⟨x33,gx33,hE⟩:=gO hE;refine gC rfl rfl (fun hC=>ungdA (k:=117) rfl (ungdA (k:=118) rfl (idxMn (f:=Z4.c) (n:=s14_22) (TK rfl) rfl (TK rfl) rfl rfl rfl (gx33 hC)))) rfl ?_
      refine G1 119 rfl Fv ?_;refine G1 120 rfl Ld ?_;obtain⟨x34,gx34,hE⟩:=gO hE;refine Gc1 121 rfl rfl rfl rfl rfl (fun hC=>Z37_walk (gx34 hC)) ?_;refine S PA (S Mv (G0 Fv ?_));refine G1 125 rfl Ld ?_;refine G0 Mv ?_;obtain⟨x35,gx35,hE⟩:=gO hE;refine gC rfl rfl (fun hC=>ungdA (k:=126) rfl (ungdA (k:=127) rfl (idxMn (f:=Z4.c) (n:=s14_22) (TK rfl) rfl (TK rfl) rfl rfl rfl (gx35 hC)))) rfl ?_;refine G1 128 rfl Fv ?_
      refine G1 129 rfl Ld ?_;refine G1 130 rfl NB ?_;refine S PA (nil ?_);refine cE hE (fun hc36 hE=>?_) (fun hc36 hE=>?_)
      ·refine region ?_;refine S Mv (S Mv ?_);obtain⟨x37,gx37,hE⟩:=bO hE;refine s0 (catM rfl rfl gx37) rfl ?_;refine S Fv (S Ld (S Mv ?_));obtain⟨x38,gx38,hE⟩:=bO hE;refine S (ix Z4.c s14_22 gx38) (S Fv (S Ld ?_));obtain⟨x39,gx39,hE⟩:=bO hE;refine s0 (catM rfl rfl gx39) rfl ?_;obtain⟨x40,gx40,hE⟩:=bO hE;refine s0 (catM rfl rfl gx40) rfl ?_;refine S BU (S BV ?_);obtain⟨x41,gx41,hE⟩:=bO hE;refine SH (am Z1.c (TK rfl) rfl (TK rfl) (TK rfl) gx41) ?_
       refine hq (H.set tk1 (some (.tok 2 x41.l.length))) ?_;refine S As (nil ?_);exact hK27 _ x41 Weak.toA hE
      refine AWp.skip ?_;exact hK27 _ s10_21 Weak.toA hE
     rintro s10_28 hE;try dsimp only at hE
     unfold Z78_j27 at hE;refine region ?_;refine S Mv ?_;refine SI ?_;refine S As (nil ?_);exact hK20 _ (n20,s10_28,(s14_22+1)) Weak.toA hE (Nat.lt_succ_self _)
    refine AWp.exit ?_;exact hK16 _ s10_21 Weak.toA hE
 rintro s10_17 hE;try dsimp only at hE
 unfold Z78_j16 at hE;refine seqR (S Mv (S As (nil ?_)));refine AWp.dropTok 6 rfl ?_;refine AWp.ret ?_;repeat (first|refine xBlock_ret ?_|refine xThen_ret ?_)
 obtain rfl:=Option.some.inj hE;refine retQ.retF H rfl ⟨rfl,rfl⟩ ?_
 first|exact Heap.sub_set htk1|(simp only [Heap.set_set]; exact Heap.sub_set htk1)
end Go.Proofs

namespace Go.Proofs
open Go Go.Ab
open AOps Cert AWp Keeps KeepsT
variable {lou:Lou}
def Z83_j3  (s5_4:(Sl Z1)):Option (Sl Z1):=some s5_4
def Z83_j14 (s6_9:Nat) (k_next_7:(Sl Z1)->Nat->Option (Sl Z1)) (s5_15:(Sl Z1)):Option (Sl Z1):=k_next_7 s5_15 (s6_9+1)
def Z83_l30 (a0:TDoc) (a1:TDef) (s6_9:Nat) (x28:(TDef×Bool)) (k_next_7:(Sl Z1)->Nat->Option (Sl Z1)):Nat->(Sl Z1)->Nat->Option (Sl Z1)
 | 0,_,_=>none
 | n30+1,s5_31,s10_32=>bif (decide (((s10_32:Nat):Int)<((x28.1.FFields.l.length:Nat):Int))) then((x28.1.FFields.l[s10_32]?).bind fun x38=>(Z78 a0 a1 x38).bind fun x39=>(appC 24 s5_31 x39).bind fun x40=>(Z83_l30 a0 a1 s6_9 x28 k_next_7 n30) x40 (s10_32+1)) else(Z83_j14 s6_9 k_next_7 s5_31)
def Z83_j19 (a0:TDoc) (a1:TDef) (s5_8:(Sl Z1)) (s6_9:Nat) (k_next_7:(Sl Z1)->Nat->Option (Sl Z1)) (s7_20:Int):Option (Sl Z1):=bif (!decide (s7_20=(0:Int))) then((appC 24 s5_8 (⟨false,[(Z1.mk s7_20 a1.FName)]⟩:Sl Z1)).bind fun x25=>Z83_j14 s6_9 k_next_7 x25) else((a1.FImplements.l[s6_9]?).bind fun x27=>(Z54 a0 x27).bind fun x28=>Z83_l30 a0 a1 s6_9 x28 k_next_7 (x28.1.FFields.l.length+1) s5_8 0)
def Z83_l7 (a0:TDoc) (a1:TDef) :Nat->(Sl Z1)->Nat->Option (Sl Z1)
 | 0,_,_=>none
 | n7+1,s5_8,s6_9=>bif (decide (((s6_9:Nat):Int)<((a1.FImplements.l.length:Nat):Int))) then((a1.FImplements.l[s6_9]?).bind fun x17=>(Z81 a0 x17 (2:Int)).bind fun x18=>guardO ((decide (x18=(0:Int)))) (partC a1.FImplements none (some ((s6_9:Nat):Int))) (Sl.nil:Sl Bs) fun x42=>guardO ((decide (x18=(0:Int)))) (a1.FImplements.l[s6_9]?) ([]:Bs) fun x43=>guardO ((decide (x18=(0:Int)))) (Z80 x42 x43) false fun x44=>bif ((decide (x18=(0:Int)))&&x44) then(Z83_j19 a0 a1 s5_8 s6_9 ((Z83_l7 a0 a1 n7)) (7:Int)) else(Z83_j19 a0 a1 s5_8 s6_9 ((Z83_l7 a0 a1 n7)) x18)) else(Z83_j3   s5_8)
def Z83 (a0:TDoc) (a1:TDef):Option (Sl Z1):=Z83_l7 a0 a1 (a1.FImplements.l.length+1) (Sl.nil:Sl Z1) 0
theorem Z83_walk {a0:TDoc}{a1:TDef}{r:Sl Z1}(hE:Z83 a0 a1=some r) (H:Heap) :ACalls Tryz.prog 37 [.agg (TDoc.c a0),.agg (TDef.c a1)] H fun v h'=>v=.a (.d (Sl.d 2 Z1.c none r))/\h'=H:=by
 unfold Z83 at hE;refine ACalls.oW 76 [.tmp 4] Tryz.call37 Tryz.func37 ?_;refine AWp.tok 2 fun tk1 htk1=>?_;refine seqR (S BX (S BX ?_));refine s0 (assignNil (k':=2) rfl) rfl ?_;refine nil ?_;refine seqR (S As (nil ?_));refine AWp.nilTok 5 2 tk1 rfl hpG ?_;refine seqJH KeepsT.nil (fun(z:(Sl Z1))=>[(5,.a (.d (Sl.d 2 Z1.c (some tk1) z)))]) (fun z=>(H.set tk1 (some (.tok 2 z.l.length)))) (fun z=>Z83_j3 z=some r) ?_ ?_
 ·intro K3 hK3;refine seqR (S As (nil ?_));refine block ?_;refine loopH (TA 2 (TA 3 KeepsT.nil)) (fun(z:Nat×(Sl Z1)×Nat)=>[(5,.a (.d (Sl.d 2 Z1.c (some tk1) z.2.1))),(6,.a (.d (.int .i64 ((z.2.2:Nat):Int))))]) (fun z=>(H.set tk1 (some (.tok 2 z.2.1.l.length)))) (fun z=>z.1) (fun z=>Z83_l7 a0 a1 z.1 z.2.1 z.2.2=some r) ((a1.FImplements.l.length+1),(Sl.nil:Sl Z1),0) hE Weak.toA ?_;rintro ⟨n7,s5_8,s6_9⟩ hE K7 hK7
  try dsimp only at hE
  cases n7 with
  | zero=>cases hE
  | succ n7 =>
    rw [Z83_l7] at hE;refine seqK fun K10 hK10=>?_;refine seqR (S Mv (S Fv (S Ld ?_)));refine sLen (f:=strE) (s:=a1.FImplements) (TK rfl) rfl rfl rfl rfl fun hL12=>?_;refine S BI (nil ?_);refine cE hE (fun hc13 hE=>?_) (fun hc13 hE=>?_)
    ·try dsimp only at hc13
     have hf13:=of_decide_eq_true hc13;refine sk hK10 ?_;clear hK10 K10;refine seqJH (TA 2 (TA 3 (TA 6 KeepsT.nil))) (fun(z:(Sl Z1))=>[(5,.a (.d (Sl.d 2 Z1.c (some tk1) z)))]) (fun z=>(H.set tk1 (some (.tok 2 z.l.length)))) (fun z=>Z83_j14 s6_9 ((Z83_l7 a0 a1 n7)) z=some r) ?_ ?_
     ·intro K14 hK14;refine block ?_;refine AWp.seqD (Sd Ld (Sd Fv (Sd Ld (Sd Mv ?_))));obtain⟨x17,gx17,hE⟩:=bO hE;refine Sd (ix strE s6_9 gx17) (Sd Ld ?_);obtain⟨x18,gx18,hE⟩:=bO hE;refine Scd rfl rfl (Z81_walk gx18) ?_;refine Sd As ?_;refine DOps.nil (by decide +kernel) ?_;refine seqJH (TA 2 (TA 3 (TA 5 (TA 6 KeepsT.nil)))) (fun(z:Int)=>[(7,.a (.d (.int .i64 z)))]) (fun z=>(H.set tk1 (some (.tok 2 s5_8.l.length)))) (fun z=>Z83_j19 a0 a1 s5_8 s6_9 ((Z83_l7 a0 a1 n7)) z=some r) ?_ ?_
      ·intro K19 hK19;refine AWp.seqD (Sd Mv (Sd BI (Sd Mv (G0d Fv ?_))));refine G1d 28 rfl Ld ?_;refine G0d Mv ?_;obtain⟨x42,gx42,hE⟩:=gO hE;refine DOps.gC rfl rfl (fun hC=>ungdA (k:=29) rfl (ungdA (k:=30) rfl (partM (f:=strE) (l:=none) (r:=(some ((s6_9:Nat):Int))) (TK rfl) rfl (TK rfl) rfl rfl trivial rfl (gx42 hC)))) rfl ?_;refine G0d Fv ?_;refine G1d 32 rfl Ld ?_;refine G0d Mv ?_;obtain⟨x43,gx43,hE⟩:=gO hE
       refine DOps.gC rfl rfl (fun hC=>ungdA (k:=33) rfl (ungdA (k:=34) rfl (idxMn (f:=strE) (n:=s6_9) (TK rfl) rfl (TK rfl) rfl rfl rfl (gx43 hC)))) rfl ?_;refine G1d 35 rfl Ld ?_;obtain⟨x44,gx44,hE⟩:=gO hE;refine Gc2d 31 36 rfl rfl rfl rfl rfl rfl (fun hC=>Z80_walk (gx44 hC)) ?_;refine Sd PA ?_;refine DOps.nil (by decide +kernel) ?_;refine cE hE (fun hc45 hE=>?_) (fun hc45 hE=>?_)
       ·refine region ?_;refine S As (nil ?_);exact hK19 _ (7:Int) Weak.toA hE
       refine AWp.skip ?_;exact hK19 _ x18 Weak.toA hE
      rintro s7_20 hE;try dsimp only at hE
      unfold Z83_j19 at hE;refine seqK fun K21 hK21=>?_;refine seqR (S Mv (S BI (nil ?_)));refine cE hE (fun hc23 hE=>?_) (fun hc23 hE=>?_)
      ·refine seqR (S Mv (S Mv (S Fv (S Ld (S BU (S BV ?_))))));obtain⟨x25,gx25,hE⟩:=bO hE;refine SH (am Z1.c (TK rfl) rfl (TK rfl) (TK rfl) gx25) ?_;refine hq (H.set tk1 (some (.tok 2 x25.l.length))) ?_;refine S As (nil ?_);refine AWp.exit ?_;exact hK14 _ x25 Weak.toA hE
      refine sk hK21 ?_;clear hK21 K21;refine AWp.seqD (Sd Ld (Sd Fv (Sd Ld (Sd Mv ?_))));obtain⟨x27,gx27,hE⟩:=bO hE;refine Sd (ix strE s6_9 gx27) (Sd Ld ?_);obtain⟨x28,gx28,hE⟩:=bO hE;refine Scd rfl rfl (Z54_walk gx28) ?_;refine Sd Mv (Sd EX (Sd EX ?_));refine DOps.sB (TK rfl) rfl rfl ?_ (by repeat (first|exact Snoc.nil|apply Snoc.cons));refine DOps.sLn (storeLFA (TK rfl) rfl rfl rfl rfl rfl) ?_;refine Sd As ?_
      refine DOps.nil (by decide +kernel) ?_;refine freezeA 8 _ rfl (KA 2 (KA 3 (KA 5 (KA 6 Keeps.nil)))) ?_;refine seqR (S As (nil ?_));refine block ?_;refine loopH (TA 2 (TA 3 (TA 6 (TA 8 KeepsT.nil)))) (fun(z:Nat×(Sl Z1)×Nat)=>[(5,.a (.d (Sl.d 2 Z1.c (some tk1) z.2.1))),(10,.a (.d (.int .i64 ((z.2.2:Nat):Int))))]) (fun z=>(H.set tk1 (some (.tok 2 z.2.1.l.length)))) (fun z=>z.1) (fun z=>Z83_l30 a0 a1 s6_9 x28 ((Z83_l7 a0 a1 n7)) z.1 z.2.1 z.2.2=some r) ((x28.1.FFields.l.length+1),s5_8,0) hE Weak.toA ?_
      rintro ⟨n30,s5_31,s10_32⟩ hE K30 hK30;try dsimp only at hE
      cases n30 with
      | zero=>cases hE
      | succ n30 =>
        rw [Z83_l30] at hE;refine seqK fun K33 hK33=>?_;refine seqR (S Mv (S Fv (S Ld ?_)));refine sLen (f:=Z2.c) (s:=x28.1.FFields) (TK rfl) rfl rfl rfl rfl fun hL35=>?_;refine S BI (nil ?_);refine cE hE (fun hc36 hE=>?_) (fun hc36 hE=>?_)
        ·try dsimp only at hc36
         have hf36:=of_decide_eq_true hc36;refine sk hK33 ?_;clear hK33 K33;refine seqK fun K37 hK37=>?_;refine block ?_;refine AWp.draw rfl ?_;refine Sd Mv (Sd Ld (Sd Ld (Sd Fv (Sd Ld (Sd Mv ?_)))));obtain⟨x38,gx38,hE⟩:=bO hE;refine Sd (ix Z2.c s10_32 gx38) (Sd Ld ?_);obtain⟨x39,gx39,hE⟩:=bO hE;refine Scd rfl rfl (Z78_walk gx39) ?_;obtain⟨x40,gx40,hE⟩:=bO hE;refine DOps.sH (appM (f:=Z1.c) (TK rfl) rfl (TK rfl) (TK rfl) ⟨_,rfl⟩ rfl rfl (by decide) rfl rfl rfl rfl hpG rfl gx40) rfl ?_
         refine DOps.Dh (H.set tk1 (some (.tok 2 x40.l.length))) ?_;refine Sd As ?_;refine DOps.nil (by decide +kernel) ?_;refine hK37 _ ?_;clear hK37 K37;refine region ?_;refine S Mv ?_;refine SI ?_;refine S As (nil ?_);exact hK30 _ (n30,x40,(s10_32+1)) Weak.toA hE (Nat.lt_succ_self _)
        refine AWp.exit ?_;exact hK14 _ s5_31 Weak.toA hE
     rintro s5_15 hE;try dsimp only at hE
     unfold Z83_j14 at hE;refine region ?_;refine S Mv ?_;refine SI ?_;refine S As (nil ?_);exact hK7 _ (n7,s5_15,(s6_9+1)) Weak.toA hE (Nat.lt_succ_self _)
    refine AWp.exit ?_;exact hK3 _ s5_8 Weak.toA hE
 rintro s5_4 hE;try dsimp only at hE
 unfold Z83_j3 at hE;refine seqR (S Mv (S As (nil ?_)));refine AWp.dropTok 4 rfl ?_;refine AWp.ret ?_;repeat (first|refine xBlock_ret ?_|refine xThen_ret ?_)
 obtain rfl:=Option.some.inj hE;refine retQ.retF H rfl ⟨rfl,rfl⟩ ?_
 first|exact Heap.sub_set htk1|(simp only [Heap.set_set]; exact Heap.sub_set htk1)
def Z84_j3  (s5_4:(Sl Z1)):Option (Sl Z1):=some s5_4
def Z84_j14 (s6_9:Nat) (k_next_7:(Sl Z1)->Nat->Option (Sl Z1)) (s5_15:(Sl Z1)):Option (Sl Z1):=k_next_7 s5_15 (s6_9+1)
def Z84_j20 (a1:TDef) (s5_8:(Sl Z1)) (s6_9:Nat) (x17:Z5) (k_next_7:(Sl Z1)->Nat->Option (Sl Z1)) (s8_21:Int):Option (Sl Z1):=bif (!decide (s8_21=(0:Int))) then((catC a1.FName ([46]:Bs)).bind fun x24=>(catC x24 x17.FName).bind fun x25=>(appC 24 s5_8 (⟨false,[(Z1.mk s8_21 x25)]⟩:Sl Z1)).bind fun x26=>Z84_j14 s6_9 k_next_7 x26) else(Z84_j14 s6_9 k_next_7 s5_8)
def Z84_l7 (a0:TDoc) (a1:TDef) :Nat->(Sl Z1)->Nat->Option (Sl Z1)
 | 0,_,_=>none
 | n7+1,s5_8,s6_9=>bif (decide (((s6_9:Nat):Int)<((a1.FMembers.l.length:Nat):Int))) then((a1.FMembers.l[s6_9]?).bind fun x17=>(Z81 a0 x17.FName (1:Int)).bind fun x19=>guardO ((decide (x19=(0:Int)))) (partC a1.FMembers none (some ((s6_9:Nat):Int))) (Sl.nil:Sl Z5) fun x28=>guardO ((decide (x19=(0:Int)))) (Z82 (TDef.mk (0:Int) ([]:Bs) (Sl.nil:Sl Bs) (Sl.nil:Sl TDir) (Sl.nil:Sl Z2) x28 (Sl.nil:Sl Z4)) x17.FName) false fun x29=>bif ((decide (x19=(0:Int)))&&x29) then(Z84_j20 a1 s5_8 s6_9 x17 ((Z84_l7 a0 a1 n7)) (7:Int)) else(Z84_j20 a1 s5_8 s6_9 x17 ((Z84_l7 a0 a1 n7)) x19)) else(Z84_j3   s5_8)
def Z84 (a0:TDoc) (a1:TDef):Option (Sl Z1):=Z84_l7 a0 a1 (a1.FMembers.l.length+1) (Sl.nil:Sl Z1) 0
theorem Z84_walk {a0:TDoc}{a1:TDef}{r:Sl Z1}(hE:Z84 a0 a1=some r) (H:Heap) :ACalls Tryz.prog 38 [.agg (TDoc.c a0),.agg (TDef.c a1)] H fun v h'=>v=.a (.d (Sl.d 2 Z1.c none r))/\h'=H:=by
 unfold Z84 at hE;refine ACalls.oW 49 [.tmp 4] Tryz.call38 Tryz.func38 ?_;refine AWp.tok 2 fun tk1 htk1=>?_;refine seqR (S BX (S BX ?_));refine s0 (assignNil (k':=2) rfl) rfl ?_;refine nil ?_;refine seqR (S As (nil ?_));refine AWp.nilTok 5 2 tk1 rfl hpG ?_;refine seqJH KeepsT.nil (fun(z:(Sl Z1))=>[(5,.a (.d (Sl.d 2 Z1.c (some tk1) z)))]) (fun z=>(H.set tk1 (some (.tok 2 z.l.length)))) (fun z=>Z84_j3 z=some r) ?_ ?_
 ·intro K3 hK3;refine seqR (S As (nil ?_));refine block ?_;refine loopH (TA 2 (TA 3 KeepsT.nil)) (fun(z:Nat×(Sl Z1)×Nat)=>[(5,.a (.d (Sl.d 2 Z1.c (some tk1) z.2.1))),(6,.a (.d (.int .i64 ((z.2.2:Nat):Int))))]) (fun z=>(H.set tk1 (some (.tok 2 z.2.1.l.length)))) (fun z=>z.1) (fun z=>Z84_l7 a0 a1 z.1 z.2.1 z.2.2=some r) ((a1.FMembers.l.length+1),(Sl.nil:Sl Z1),0) hE Weak.toA ?_;rintro ⟨n7,s5_8,s6_9⟩ hE K7 hK7
  try dsimp only at hE
  cases n7 with
  | zero=>cases hE
  | succ n7 =>
    rw [Z84_l7] at hE;refine seqK fun K10 hK10=>?_;refine seqR (S Mv (S Fv (S Ld ?_)));refine sLen (f:=Z5.c) (s:=a1.FMembers) (TK rfl) rfl rfl rfl rfl fun hL12=>?_;refine S BI (nil ?_);refine cE hE (fun hc13 hE=>?_) (fun hc13 hE=>?_)
    ·try dsimp only at hc13
     have hf13:=of_decide_eq_true hc13;refine sk hK10 ?_;clear hK10 K10;refine seqJH (TA 2 (TA 3 (TA 6 KeepsT.nil))) (fun(z:(Sl Z1))=>[(5,.a (.d (Sl.d 2 Z1.c (some tk1) z)))]) (fun z=>(H.set tk1 (some (.tok 2 z.l.length)))) (fun z=>Z84_j14 s6_9 ((Z84_l7 a0 a1 n7)) z=some r) ?_ ?_
     ·intro K14 hK14;refine block ?_;refine seqR (S Fv (S Ld (S Mv ?_)));obtain⟨x17,gx17,hE⟩:=bO hE;refine S (ix Z5.c s6_9 gx17) (S Fv (S Ld (S As (nil ?_))));refine seqR (S Ld (S Mv ?_));obtain⟨x19,gx19,hE⟩:=bO hE;refine Sc rfl rfl (Z81_walk gx19) ?_;refine S As (nil ?_);refine seqJH (TA 2 (TA 3 (TA 5 (TA 6 (TA 7 KeepsT.nil))))) (fun(z:Int)=>[(8,.a (.d (.int .i64 z)))]) (fun z=>(H.set tk1 (some (.tok 2 s5_8.l.length)))) (fun z=>Z84_j20 a1 s5_8 s6_9 x17 ((Z84_l7 a0 a1 n7)) z=some r) ?_ ?_
      ·intro K20 hK20;refine seqR (S Mv (S BI (S Mv (G0 Fv ?_))));refine G1 28 rfl Ld ?_;refine G0 Mv ?_;obtain⟨x28,gx28,hE⟩:=gO hE;refine gC rfl rfl (fun hC=>ungdA (k:=29) rfl (ungdA (k:=30) rfl (partM (f:=Z5.c) (l:=none) (r:=(some ((s6_9:Nat):Int))) (TK rfl) rfl (TK rfl) rfl rfl trivial rfl (gx28 hC)))) rfl ?_;refine G1 31 rfl BU ?_;refine G0 Mv ?_;obtain⟨x29,gx29,hE⟩:=gO hE;refine Gc2 32 33 rfl rfl rfl rfl rfl rfl (fun hC=>Z82_walk (gx29 hC)) ?_
       refine S PA (nil ?_);refine cE hE (fun hc30 hE=>?_) (fun hc30 hE=>?_)
       ·refine region ?_;refine S As (nil ?_);exact hK20 _ (7:Int) Weak.toA hE
       refine AWp.skip ?_;exact hK20 _ x19 Weak.toA hE
      rintro s8_21 hE;try dsimp only at hE
      unfold Z84_j20 at hE;refine seqR (S Mv (S BI (nil ?_)));refine cE hE (fun hc23 hE=>?_) (fun hc23 hE=>?_)
      ·refine region ?_;refine S Mv (S Mv (S Fv (S Ld ?_)));obtain⟨x24,gx24,hE⟩:=bO hE;refine s0 (catM rfl rfl gx24) rfl ?_;refine S Mv ?_;obtain⟨x25,gx25,hE⟩:=bO hE;refine s0 (catM rfl rfl gx25) rfl ?_;refine S BU (S BV ?_);obtain⟨x26,gx26,hE⟩:=bO hE;refine SH (am Z1.c (TK rfl) rfl (TK rfl) (TK rfl) gx26) ?_;refine hq (H.set tk1 (some (.tok 2 x26.l.length))) ?_;refine S As (nil ?_);exact hK14 _ x26 Weak.toA hE
      refine AWp.skip ?_;exact hK14 _ s5_8 Weak.toA hE
     rintro s5_15 hE;try dsimp only at hE
     unfold Z84_j14 at hE;refine region ?_;refine S Mv ?_;refine SI ?_;refine S As (nil ?_);exact hK7 _ (n7,s5_15,(s6_9+1)) Weak.toA hE (Nat.lt_succ_self _)
    refine AWp.exit ?_;exact hK3 _ s5_8 Weak.toA hE
 rintro s5_4 hE;try dsimp only at hE
 unfold Z84_j3 at hE;refine seqR (S Mv (S As (nil ?_)));refine AWp.dropTok 4 rfl ?_;refine AWp.ret ?_;repeat (first|refine xBlock_ret ?_|refine xThen_ret ?_)
 obtain rfl:=Option.some.inj hE;refine retQ.retF H rfl ⟨rfl,rfl⟩ ?_
 first|exact Heap.sub_set htk1|(simp only [Heap.set_set]; exact Heap.sub_set htk1)
def Z73_j3  (s3_4:(Sl Z1)):Option (Sl Z1):=some s3_4
def Z73_j14 (s4_9:Nat) (k_next_7:(Sl Z1)->Nat->Option (Sl Z1)) (s3_15:(Sl Z1)):Option (Sl Z1):=k_next_7 s3_15 (s4_9+1)
def Z73_l7 (a0:TDoc) :Nat->(Sl Z1)->Nat->Option (Sl Z1)
 | 0,_,_=>none
 | n7+1,s3_8,s4_9=>bif (decide (((s4_9:Nat):Int)<((a0.FDefs.l.length:Nat):Int))) then((a0.FDefs.l[s4_9]?).bind fun x17=>bif (decide (x17.FKind=(1:Int))) then((a0.FDefs.l[s4_9]?).bind fun x20=>(Z83 a0 x20).bind fun x21=>(appC 24 s3_8 x21).bind fun x22=>Z73_j14 s4_9 ((Z73_l7 a0 n7)) x22) else(bif (decide (x17.FKind=(3:Int))) then((a0.FDefs.l[s4_9]?).bind fun x25=>(Z84 a0 x25).bind fun x26=>(appC 24 s3_8 x26).bind fun x27=>Z73_j14 s4_9 ((Z73_l7 a0 n7)) x27) else(Z73_j14 s4_9 ((Z73_l7 a0 n7)) s3_8))) else(Z73_j3   s3_8)
def Z73 (a0:TDoc):Option (Sl Z1):=Z73_l7 a0 (a0.FDefs.l.length+1) (Sl.nil:Sl Z1) 0
theorem Z73_walk {a0:TDoc}{r:Sl Z1}(hE:Z73 a0=some r) (H:Heap) :ACalls Tryz.prog 15 [.agg (TDoc.c a0)] H fun v h'=>v=.a (.d (Sl.d 2 Z1.c none r))/\h'=H:=by
 unfold Z73 at hE;refine ACalls.oW 41 [.tmp 2] Tryz.call15 Tryz.func15 ?_;refine AWp.tok 2 fun tk1 htk1=>?_;refine seqR (S BX ?_);refine s0 (assignNil (k':=2) rfl) rfl ?_;refine nil ?_;refine seqR (S As (nil ?_));refine AWp.nilTok 3 2 tk1 rfl hpG ?_;refine seqJH KeepsT.nil (fun(z:(Sl Z1))=>[(3,.a (.d (Sl.d 2 Z1.c (some tk1) z)))]) (fun z=>(H.set tk1 (some (.tok 2 z.l.length)))) (fun z=>Z73_j3 z=some r) ?_ ?_
 ·intro K3 hK3;refine seqR (S As (nil ?_));refine block ?_;refine loopH (TA 1 KeepsT.nil) (fun(z:Nat×(Sl Z1)×Nat)=>[(3,.a (.d (Sl.d 2 Z1.c (some tk1) z.2.1))),(4,.a (.d (.int .i64 ((z.2.2:Nat):Int))))]) (fun z=>(H.set tk1 (some (.tok 2 z.2.1.l.length)))) (fun z=>z.1) (fun z=>Z73_l7 a0 z.1 z.2.1 z.2.2=some r) ((a0.FDefs.l.length+1),(Sl.nil:Sl Z1),0) hE Weak.toA ?_;rintro ⟨n7,s3_8,s4_9⟩ hE K7 hK7;try dsimp only at hE
  cases n7 with
  | zero=>cases hE
  | succ n7 =>
    rw [Z73_l7] at hE;refine seqK fun K10 hK10=>?_;refine seqR (S Mv (S Fv (S Ld ?_)));refine sLen (f:=TDef.c) (s:=a0.FDefs) (TK rfl) rfl rfl rfl rfl fun hL12=>?_;refine S BI (nil ?_);refine cE hE (fun hc13 hE=>?_) (fun hc13 hE=>?_)
    ·try dsimp only at hc13
     have hf13:=of_decide_eq_true hc13;refine sk hK10 ?_;clear hK10 K10;refine seqJH (TA 1 (TA 4 KeepsT.nil)) (fun(z:(Sl Z1))=>[(3,.a (.d (Sl.d 2 Z1.c (some tk1) z)))]) (fun z=>(H.set tk1 (some (.tok 2 z.l.length)))) (fun z=>Z73_j14 s4_9 ((Z73_l7 a0 n7)) z=some r) ?_ ?_
     ·intro K14 hK14;refine block ?_;refine seqR (S Fv (S Ld (S Mv ?_)));obtain⟨x17,gx17,hE⟩:=bO hE;refine S (ix TDef.c s4_9 gx17) (S Fv (S Ld (nil ?_)));refine block ?_;refine seqR (S BI (S As (nil ?_)));refine cE hE (fun hc19 hE=>?_) (fun hc19 hE=>?_)
      ·refine AWp.draw rfl ?_;refine Sd Mv (Sd Ld (Sd Fv (Sd Ld (Sd Mv ?_))));obtain⟨x20,gx20,hE⟩:=bO hE;refine Sd (ix TDef.c s4_9 gx20) (Sd Ld ?_);obtain⟨x21,gx21,hE⟩:=bO hE;refine Scd rfl rfl (Z83_walk gx21) ?_;obtain⟨x22,gx22,hE⟩:=bO hE;refine DOps.sH (appM (f:=Z1.c) (TK rfl) rfl (TK rfl) (TK rfl) ⟨_,rfl⟩ rfl rfl (by decide) rfl rfl rfl rfl hpG rfl gx22) rfl ?_;refine DOps.Dh (H.set tk1 (some (.tok 2 x22.l.length))) ?_
       refine Sd As ?_;refine DOps.nil (by decide +kernel) ?_;exact hK14 _ x22 Weak.toA hE
      refine seqR (S BI (S As (nil ?_)));refine cE hE (fun hc24 hE=>?_) (fun hc24 hE=>?_)
      ·refine AWp.draw rfl ?_;refine Sd Mv (Sd Ld (Sd Fv (Sd Ld (Sd Mv ?_))));obtain⟨x25,gx25,hE⟩:=bO hE;refine Sd (ix TDef.c s4_9 gx25) (Sd Ld ?_);obtain⟨x26,gx26,hE⟩:=bO hE;refine Scd rfl rfl (Z84_walk gx26) ?_;obtain⟨x27,gx27,hE⟩:=bO hE;refine DOps.sH (appM (f:=Z1.c) (TK rfl) rfl (TK rfl) (TK rfl) ⟨_,rfl⟩ rfl rfl (by decide) rfl rfl rfl rfl hpG rfl gx27) rfl ?_;refine DOps.Dh (H.set tk1 (some (.tok 2 x27.l.length))) ?_
       refine Sd As ?_;refine DOps.nil (by decide +kernel) ?_;exact hK14 _ x27 Weak.toA hE
      refine AWp.skip ?_;exact hK14 _ s3_8 Weak.toA hE
     rintro s3_15 hE;try dsimp only at hE
     unfold Z73_j14 at hE;refine region ?_;refine S Mv ?_;refine SI ?_;refine S As (nil ?_);exact hK7 _ (n7,s3_15,(s4_9+1)) Weak.toA hE (Nat.lt_succ_self _)
    refine AWp.exit ?_;exact hK3 _ s3_8 Weak.toA hE
 rintro s3_4 hE;try dsimp only at hE
 unfold Z73_j3 at hE;refine seqR (S Mv (S As (nil ?_)));refine AWp.dropTok 2 rfl ?_;refine AWp.ret ?_;repeat (first|refine xBlock_ret ?_|refine xThen_ret ?_)
 obtain rfl:=Option.some.inj hE;refine retQ.retF H rfl ⟨rfl,rfl⟩ ?_
 first|exact Heap.sub_set htk1|(simp only [Heap.set_set]; exact Heap.sub_set htk1)
def Z51 (a0:TDoc) (a1:Bs):Option Bool:=(Z54 a0 a1).bind fun x3=>(Z60 a1).bind fun x5=>some (((!x5)&&x3.2)&&(((decide (x3.1.FKind=(1:Int)))||(decide (x3.1.FKind=(2:Int))))||(decide (x3.1.FKind=(3:Int)))))
theorem Z51_walk {a0:TDoc}{a1:Bs}{r:Bool}(hE:Z51 a0 a1=some r) (H:Heap) :ACalls Tryz.prog 82 [.agg (TDoc.c a0),.d (.str a1)] H fun v h'=>v=.a (.d (.bool r))/\h'=H:=by
 unfold Z51 at hE;refine ACalls.oW 34 [.tmp 4] Tryz.call82 Tryz.func82 ?_;refine seqR (S BX (S As (nil ?_)));refine seqR (S Ld (S Mv ?_));obtain⟨x3,gx3,hE⟩:=bO hE;refine Sc rfl rfl (Z54_walk gx3) ?_;refine S Mv (S EX (S EX ?_));refine Sl ?_;refine Sf ?_;refine S As (nil ?_);refine freezeA 5 _ rfl (KA 1 (KA 6 Keeps.nil)) ?_;refine seqR (S Mv ?_);obtain⟨x5,gx5,hE⟩:=bO hE;refine Sc rfl rfl (Z60_walk gx5) ?_
 refine S NB (S Mv (G0 Mv (S PA (S Mv (G0 Fv ?_)))));refine G1 20 rfl Ld ?_;refine G1 21 rfl BI ?_;refine G1 22 rfl Mv ?_;refine G0 Fv ?_;refine G1 24 rfl Ld ?_;refine G1 25 rfl BI ?_;refine gC rfl rfl (fun hC=>ungdA (k:=23) rfl (pickOrA rfl rfl rfl)) rfl ?_;refine G1 27 rfl Mv ?_;refine G0 Fv ?_;refine G1 29 rfl Ld ?_;refine G1 30 rfl BI ?_;refine gC rfl rfl (fun hC=>ungdA (k:=28) rfl (pickOrA rfl rfl rfl)) rfl ?_
 refine S PA (S As (nil ?_));exact rt hE
def Z94 (a0:TDoc) (a1:Bs):Option Bs:=(Z51 a0 a1).bind fun x4=>bif x4 then(some a1) else(some ([]:Bs))
theorem Z94_walk {a0:TDoc}{a1 r:Bs}(hE:Z94 a0 a1=some r) (H:Heap) :ACalls Tryz.prog 40 [.agg (TDoc.c a0),.d (.str a1)] H fun v h'=>v=.a (.d (.str r))/\h'=H:=by
 unfold Z94 at hE;refine ACalls.oW 9 [.tmp 4] Tryz.call40 Tryz.func40 ?_;refine seqR (S BX (S As (nil ?_)));refine seqK fun K2 hK2=>?_;refine seqR (S Ld (S Mv ?_));obtain⟨x4,gx4,hE⟩:=bO hE;refine Sc rfl rfl (Z51_walk gx4) ?_;refine nil ?_;refine cE hE (fun hc5 hE=>?_) (fun hc5 hE=>?_)
 ·refine seqR (S Mv (S As (nil ?_)));exact rt hE
 refine sk hK2 ?_;clear hK2 K2;refine seqR (S As (nil ?_));exact rt hE
def Z86_j2  (y3_l0:Z3):Option (Z3×Bool):=some ((Z3.mk ([]:Bs) ([]:Bs) (Sl.nil:Sl TSel)),false)
def Z86_l6 (a0:Z6) (a1:Bs) :Nat->Nat->Z3->Option (Z3×Bool)
 | 0,_,_=>none
 | n6+1,s6_7,y8_l0=>bif (decide (((s6_7:Nat):Int)<((a0.FFrags.l.length:Nat):Int))) then((a0.FFrags.l[s6_7]?).bind fun x15=>bif ((x15.FName==a1)) then((a0.FFrags.l[s6_7]?).bind fun x18=>some (x18,true)) else((Z86_l6 a0 a1 n6) (s6_7+1) y8_l0)) else(Z86_j2   y8_l0)
def Z86 (a0:Z6) (a1:Bs):Option (Z3×Bool):=Z86_l6 a0 a1 (a0.FFrags.l.length+1) 0 Z3.zero
theorem Z86_walk {a0:Z6}{a1:Bs}{r:Z3×Bool}(hE:Z86 a0 a1=some r) (H:Heap) :ACalls Tryz.prog 59 [.agg (Z6.c a0),.d (.str a1)] H fun v h'=>v=.tup [.agg (Z3.c r.1),.d (.bool r.2)]/\h'=H:=by
 unfold Z86 at hE;refine ACalls.oW 28 [.cell 4 65,.tmp 5] Tryz.call59 Tryz.func59 ?_;refine seqR (S BX ?_);refine Sl ?_;refine S As (nil ?_);refine seqJ (TA 4 KeepsT.nil) (fun(z:Z3)=>[]) (fun z=>[Z3.c z]) (fun z=>H) (fun z=>Z86_j2 z=some r) ?_ ?_
 ·intro K2 hK2;refine seqR (S As (nil ?_));refine block ?_;refine loopO (TA 1 (TA 2 (TA 4 KeepsT.nil))) (fun(z:Nat×Nat×Z3)=>[(6,.a (.d (.int .i64 ((z.2.1:Nat):Int))))]) (fun z=>[Z3.c z.2.2]) (fun z=>H) (fun z=>z.1) (fun z=>Z86_l6 a0 a1 z.1 z.2.1 z.2.2=some r) ((a0.FFrags.l.length+1),0,Z3.zero) hE Weak.toA ?_;rintro ⟨n6,s6_7,y8_l0⟩ hE K6 hK6;try dsimp only at hE
  cases n6 with
  | zero=>cases hE
  | succ n6 =>
    rw [Z86_l6] at hE;refine seqK fun K9 hK9=>?_;refine seqR (S Mv (S Fv (S Ld ?_)));refine sLen (f:=Z3.c) (s:=a0.FFrags) (TK rfl) rfl rfl rfl rfl fun hL11=>?_;refine S BI (nil ?_);refine cE hE (fun hc12 hE=>?_) (fun hc12 hE=>?_)
    ·try dsimp only at hc12
     have hf12:=of_decide_eq_true hc12;refine sk hK9 ?_;clear hK9 K9;refine seqK fun K13 hK13=>?_;refine block ?_;refine seqR (S Fv (S Ld (S Mv ?_)));obtain⟨x15,gx15,hE⟩:=bO hE;refine S (ix Z3.c s6_7 gx15) (S Fv (S Ld (S Mv (S BS (nil ?_)))));refine cE hE (fun hc16 hE=>?_) (fun hc16 hE=>?_)
     ·refine seqR (S Fv (S Ld (S Mv ?_)));obtain⟨x18,gx18,hE⟩:=bO hE;refine S (ix Z3.c s6_7 gx18) (S Ld ?_);refine Sf ?_;refine S As (nil ?_);exact rt hE
     refine sk hK13 ?_;clear hK13 K13;refine region ?_;refine S Mv ?_;refine SI ?_;refine S As (nil ?_);exact hK6 _ (n6,(s6_7+1),y8_l0) Weak.toA hE (Nat.lt_succ_self _)
    refine AWp.exit ?_;exact hK2 _ y8_l0 Weak.toA hE
 rintro y3_l0 hE;try dsimp only at hE
 unfold Z86_j2 at hE;refine seqR (S BU ?_);refine Sf ?_;refine S As (nil ?_);exact rt hE
def Z75_j4  :Option Bool:=some false
def Z75_l7 (a0:TDoc) (a2:Bs) (x3:(Sl Bs)) :Nat->Nat->Option Bool
 | 0,_=>none
 | n7+1,s8_8=>bif (decide (((s8_8:Nat):Int)<((x3.l.length:Nat):Int))) then((x3.l[s8_8]?).bind fun x15=>(Z74 a0 x15 a2).bind fun x16=>bif x16 then(some true) else((Z75_l7 a0 a2 x3 n7) (s8_8+1))) else(Z75_j4   )
def Z75 (a0:TDoc) (a1:Bs) (a2:Bs):Option Bool:=(Z76 a0 a1).bind fun x3=>Z75_l7 a0 a2 x3 (x3.l.length+1) 0
theorem Z75_walk {a0:TDoc}{a1 a2:Bs}{r:Bool}(hE:Z75 a0 a1 a2=some r) (H:Heap) :ACalls Tryz.prog 111 [.agg (TDoc.c a0),.d (.str a1),.d (.str a2)] H fun v h'=>v=.a (.d (.bool r))/\h'=H:=by
 unfold Z75 at hE;refine ACalls.oW 25 [.tmp 6] Tryz.call111 Tryz.func111 ?_;refine seqR (S BX (S As (nil ?_)));refine seqR (S Ld (S Mv ?_));obtain⟨x3,gx3,hE⟩:=bO hE;refine Sc rfl rfl (Z76_walk gx3) ?_;refine S As (nil ?_);refine seqJH KeepsT.nil (fun(z:Unit)=>[]) (fun z=>H) (fun z=>Z75_j4 =some r) ?_ ?_
 ·intro K4 hK4;refine seqR (S As (nil ?_));refine block ?_;refine loopH (TA 2 (TA 3 (TA 7 KeepsT.nil))) (fun(z:Nat×Nat)=>[(8,.a (.d (.int .i64 ((z.2:Nat):Int))))]) (fun z=>H) (fun z=>z.1) (fun z=>Z75_l7 a0 a2 x3 z.1 z.2=some r) ((x3.l.length+1),0) hE Weak.toA ?_;rintro ⟨n7,s8_8⟩ hE K7 hK7;try dsimp only at hE
  cases n7 with
  | zero=>cases hE
  | succ n7 =>
    rw [Z75_l7] at hE;refine seqK fun K9 hK9=>?_;refine seqR (S Mv (S Mv ?_));refine sLen (f:=strE) (s:=x3) (TK rfl) rfl rfl rfl rfl fun hL11=>?_;refine S BI (nil ?_);refine cE hE (fun hc12 hE=>?_) (fun hc12 hE=>?_)
    ·try dsimp only at hc12
     have hf12:=of_decide_eq_true hc12;refine sk hK9 ?_;clear hK9 K9;refine seqK fun K13 hK13=>?_;refine block ?_;refine AWp.seqD (Sd Ld (Sd Mv (Sd Mv ?_)));obtain⟨x15,gx15,hE⟩:=bO hE;refine Sd (ix strE s8_8 gx15) (Sd Ld (Sd Mv ?_));obtain⟨x16,gx16,hE⟩:=bO hE;refine Scd rfl rfl (Z74_walk gx16) ?_;refine DOps.nil (by decide +kernel) ?_;refine cE hE (fun hc17 hE=>?_) (fun hc17 hE=>?_)
     ·refine seqR (S As (nil ?_));exact rt hE
     refine sk hK13 ?_;clear hK13 K13;refine region ?_;refine S Mv ?_;refine SI ?_;refine S As (nil ?_);exact hK7 _ (n7,(s8_8+1)) Weak.toA hE (Nat.lt_succ_self _)
    refine AWp.exit ?_;exact hK4 _ () Weak.toA hE
 rintro _ hE;try dsimp only at hE
 unfold Z75_j4 at hE;refine seqR (S As (nil ?_));exact rt hE
end Go.Proofs

namespace Go.Proofs
open Go Go.Ab
open AOps Cert AWp Keeps KeepsT
variable {lou:Lou}
def Z88 (a0:TDoc) (a1:Bs) (a2:Bs) (a3:Bs):Option (Sl Z1):=guardO (!(((a1==([]:Bs)))||((a2==([]:Bs))))) (Z75 a0 a1 a2) false fun x4=>bif ((((a1==([]:Bs)))||((a2==([]:Bs))))||x4) then(some (Sl.nil:Sl Z1)) else(some (⟨false,[(Z1.mk (25:Int) a3)]⟩:Sl Z1))
theorem Z88_walk {a0:TDoc}{a1 a2 a3:Bs}{r:Sl Z1}(hE:Z88 a0 a1 a2 a3=some r) (H:Heap) :ACalls Tryz.prog 79 [.agg (TDoc.c a0),.d (.str a1),.d (.str a2),.d (.str a3)] H fun v h'=>v=.a (.d (Sl.d 2 Z1.c none r))/\h'=H:=by
 unfold Z88 at hE;refine ACalls.oW 24 [.tmp 8] Tryz.call79 Tryz.func79 ?_;refine seqR (S BX ?_);refine s0 (assignNil (k':=2) rfl) rfl ?_;refine nil ?_;refine seqK fun K2 hK2=>?_;refine seqR (S Mv (S BS (S Mv (G0 Mv ?_))));refine G1 12 rfl BS ?_;refine S PO (S Mv (G0 Ld (G0 Mv (G0 Mv ?_))));obtain⟨x4,gx4,hE⟩:=gO hE;refine gC rfl rfl (fun hC=>ungdA (k:=16) rfl (ungdA (k:=17) rfl (ungdA (k:=18) rfl (callP rfl rfl (fun H=>Z75_walk (gx4 hC) H))))) rfl ?_
 refine S PO (nil ?_);refine cE hE (fun hc5 hE=>?_) (fun hc5 hE=>?_)
 ·refine seqR ?_;refine s0 (assignNil (k':=2) rfl) rfl ?_;refine nil ?_;exact rt hE
 refine sk hK2 ?_;clear hK2 K2;refine seqR (S Mv (S BU (S BV (S As (nil ?_)))));exact rt hE
def Z98 (a0:TDoc) (a1:Bs) (a2:Bs):Option Bs:=(Z54 a0 a1).bind fun x3=>(Z53 x3.1 a2).bind fun x5=>bif ((((a1==([]:Bs)))||(!x3.2))||(!x5.2)) then(some ([]:Bs)) else((Z94 a0 x5.1.FType.FName).bind fun x11=>some x11)
theorem Z98_walk {a0:TDoc}{a1 a2 r:Bs}(hE:Z98 a0 a1 a2=some r) (H:Heap) :ACalls Tryz.prog 80 [.agg (TDoc.c a0),.d (.str a1),.d (.str a2)] H fun v h'=>v=.a (.d (.str r))/\h'=H:=by
 unfold Z98 at hE;refine ACalls.oW 38 [.tmp 6] Tryz.call80 Tryz.func80 ?_;refine seqR (S BX (S As (nil ?_)));refine seqR (S Ld (S Mv ?_));obtain⟨x3,gx3,hE⟩:=bO hE;refine Sc rfl rfl (Z54_walk gx3) ?_;refine S Mv (S EX (S EX ?_));refine Sl ?_;refine Sf ?_;refine S As (nil ?_);refine freezeA 7 _ rfl (KA 1 (KA 2 (KA 3 (KA 8 Keeps.nil)))) ?_;refine seqR (S Ld (S Mv ?_));obtain⟨x5,gx5,hE⟩:=bO hE;refine Sc rfl rfl (Z53_walk gx5) ?_
 refine S Mv (S EX (S EX ?_));refine Sl ?_;refine Sf ?_;refine S As (nil ?_);refine freezeA 9 _ rfl (KA 1 (KA 3 (KA 8 (KA 10 Keeps.nil)))) ?_;refine seqK fun K6 hK6=>?_;refine seqR (S Mv (S BS (S Mv (G0 Mv ?_))));refine G1 26 rfl NB ?_;refine S PO (S Mv (G0 Mv ?_));refine G1 30 rfl NB ?_;refine S PO (nil ?_);refine cE hE (fun hc8 hE=>?_) (fun hc8 hE=>?_)
 ·refine seqR (S As (nil ?_));exact rt hE
 refine sk hK6 ?_;clear hK6 K6;refine seqR (S Ld (S Fv (S Fv (S Ld ?_))));obtain⟨x11,gx11,hE⟩:=bO hE;refine Sc rfl rfl (Z94_walk gx11) ?_;refine S As (nil ?_);exact rt hE
def Z93 (a0:TSel):Option Bs:=bif (!(a0.FAlias==([]:Bs))) then(some a0.FAlias) else(some a0.FName)
theorem Z93_walk {a0:TSel}{r:Bs}(hE:Z93 a0=some r) (H:Heap) :ACalls Tryz.prog 81 [.agg (TSel.c a0)] H fun v h'=>v=.a (.d (.str r))/\h'=H:=by
 unfold Z93 at hE;refine ACalls.oW 10 [.tmp 2] Tryz.call81 Tryz.func81 ?_;refine seqR (S BX (S As (nil ?_)));refine seqK fun K2 hK2=>?_;refine seqR (S Fv (S Ld (S BS (nil ?_))));refine cE hE (fun hc4 hE=>?_) (fun hc4 hE=>?_)
 ·refine seqR (S Fv (S Ld (S As (nil ?_))));exact rt hE
 refine sk hK2 ?_;clear hK2 K2;refine seqR (S Fv (S Ld (S As (nil ?_))));exact rt hE
def Z95_j3  (s11_4:(Sl Z1)):Option (Sl Z1):=some s11_4
def Z95_j14 (s12_9:Nat) (k_next_7:(Sl Z1)->Nat->Option (Sl Z1)) (s11_15:(Sl Z1)):Option (Sl Z1):=k_next_7 s11_15 (s12_9+1)
def Z95_j32 (a0:TDoc) (a1:Z6) (a4:Bs) (s12_9:Nat) (x17:TSel) (k_next_7:(Sl Z1)->Nat->Option (Sl Z1)) (k_rec_39:TDoc->Z6->(Sl TSel)->Bs->Bs->Option (Sl Z1)) (s11_33:(Sl Z1)) (s16_34:Bs):Option (Sl Z1):=(k_rec_39 a0 a1 x17.FSels s16_34 a4).bind fun x35=>(appC 24 s11_33 x35).bind fun x36=>Z95_j14 s12_9 k_next_7 x36
def Z95_j41 (a0:TDoc) (a1:Z6) (a3:Bs) (a4:Bs) (s12_9:Nat) (x17:TSel) (x40:Bs) (k_next_7:(Sl Z1)->Nat->Option (Sl Z1)) (k_rec_39:TDoc->Z6->(Sl TSel)->Bs->Bs->Option (Sl Z1)) (s11_42:(Sl Z1)):Option (Sl Z1):=(Z88 a0 a3 x40 a4).bind fun x43=>(appC 24 s11_42 x43).bind fun x44=>Z95_j32 a0 a1 a4 s12_9 x17 k_next_7 k_rec_39 x44 x40
def Z95_l7 (a0:TDoc) (a1:Z6) (a2:(Sl TSel)) (a3:Bs) (a4:Bs) (k_rec_39:TDoc->Z6->(Sl TSel)->Bs->Bs->Option (Sl Z1)):Nat->(Sl Z1)->Nat->Option (Sl Z1)
 | 0,_,_=>none
 | n7+1,s11_8,s12_9=>bif (decide (((s12_9:Nat):Int)<((a2.l.length:Nat):Int))) then((a2.l[s12_9]?).bind fun x17=>bif (decide (x17.FKind=(2:Int))) then((Z86 a1 x17.FName).bind fun x22=>bif (!x22.2) then((appC 24 s11_8 (⟨false,[(Z1.mk (24:Int) a4)]⟩:Sl Z1)).bind fun x25=>Z95_j14 s12_9 ((Z95_l7 a0 a1 a2 a3 a4 k_rec_39 n7)) x25) else((Z94 a0 x22.1.FOn).bind fun x26=>(Z88 a0 a3 x26 a4).bind fun x27=>(appC 24 s11_8 x27).bind fun x28=>Z95_j14 s12_9 ((Z95_l7 a0 a1 a2 a3 a4 k_rec_39 n7)) x28)) else(bif (decide (x17.FKind=(3:Int))) then(bif (!(x17.FOn==([]:Bs))) then((Z94 a0 x17.FOn).bind fun x40=>bif ((x40==([]:Bs))) then((appC 24 s11_8 (⟨false,[(Z1.mk (24:Int) a4)]⟩:Sl Z1)).bind fun x47=>Z95_j41 a0 a1 a3 a4 s12_9 x17 x40 ((Z95_l7 a0 a1 a2 a3 a4 k_rec_39 n7)) k_rec_39 x47) else(Z95_j41 a0 a1 a3 a4 s12_9 x17 x40 ((Z95_l7 a0 a1 a2 a3 a4 k_rec_39 n7)) k_rec_39 s11_8)) else(Z95_j32 a0 a1 a4 s12_9 x17 ((Z95_l7 a0 a1 a2 a3 a4 k_rec_39 n7)) k_rec_39 s11_8 a3)) else((Z98 a0 a3 x17.FName).bind fun x48=>(catC a4 ([47]:Bs)).bind fun x49=>(Z93 x17).bind fun x50=>(catC x49 x50).bind fun x51=>(k_rec_39 a0 a1 x17.FSels x48 x51).bind fun x52=>(appC 24 s11_8 x52).bind fun x53=>Z95_j14 s12_9 ((Z95_l7 a0 a1 a2 a3 a4 k_rec_39 n7)) x53))) else(Z95_j3   s11_8)
def Z95_n:Nat->TDoc->Z6->(Sl TSel)->Bs->Bs->Option (Sl Z1)
 | 0,_,_,_,_,_=>none
 | n+1,a0,a1,a2,a3,a4=>Z95_l7 a0 a1 a2 a3 a4 (Z95_n n) (a2.l.length+1) (Sl.nil:Sl Z1) 0
theorem Z95_step (n:Nat) (ih_39:∀{a0:TDoc}{a1:Z6}{a2:Sl TSel}{a3 a4:Bs}{w2:Option Nat}{r:Sl Z1},Z95_n n a0 a1 a2 a3 a4=some r->∀(H:Heap),ACalls Tryz.prog 39 [.agg (TDoc.c a0),.agg (Z6.c a1),.d (Sl.d 7 TSel.c w2 a2),.d (.str a3),.d (.str a4)] H fun v h'=>v=.a (.d (Sl.d 2 Z1.c none r))/\h'=H):∀{a0:TDoc}{a1:Z6}{a2:Sl TSel}{a3 a4:Bs}{w2:Option Nat}{r:Sl Z1},Z95_n (n+1) a0 a1 a2 a3 a4=some r->∀(H:Heap),ACalls Tryz.prog 39 [.agg (TDoc.c a0),.agg (Z6.c a1),.d (Sl.d 7 TSel.c w2 a2),.d (.str a3),.d (.str a4)] H fun v h'=>v=.a (.d (Sl.d 2 Z1.c none r))/\h'=H:=by
 intro a0 a1 a2 a3 a4 w2  r hE H ;rw [Z95_n] at hE;refine ACalls.oW 106 [.tmp 10] Tryz.call39 Tryz.func39 ?_;refine AWp.tok 2 fun tk1 htk1=>?_;refine seqR (S BX (S BX ?_));refine s0 (assignNil (k':=2) rfl) rfl ?_;refine nil ?_;refine seqR (S As (nil ?_));refine AWp.nilTok 11 2 tk1 rfl hpG ?_;refine seqJH KeepsT.nil (fun(z:(Sl Z1))=>[(11,.a (.d (Sl.d 2 Z1.c (some tk1) z)))]) (fun z=>(H.set tk1 (some (.tok 2 z.l.length)))) (fun z=>Z95_j3 z=some r) ?_ ?_
 ·intro K3 hK3;refine seqR (S As (nil ?_));refine block ?_;refine loopH (TA 2 (TA 3 (TA 4 (TA 5 (TA 6 KeepsT.nil))))) (fun(z:Nat×(Sl Z1)×Nat)=>[(11,.a (.d (Sl.d 2 Z1.c (some tk1) z.2.1))),(12,.a (.d (.int .i64 ((z.2.2:Nat):Int))))]) (fun z=>(H.set tk1 (some (.tok 2 z.2.1.l.length)))) (fun z=>z.1) (fun z=>Z95_l7 a0 a1 a2 a3 a4 (Z95_n n) z.1 z.2.1 z.2.2=some r) ((a2.l.length+1),(Sl.nil:Sl Z1),0) hE Weak.toA ?_
  rintro ⟨n7,s11_8,s12_9⟩ hE K7 hK7;try dsimp only at hE
  cases n7 with
  | zero=>cases hE
  | succ n7 =>
    rw [Z95_l7] at hE;refine seqK fun K10 hK10=>?_;refine seqR (S Mv (S Mv ?_));refine sLen (f:=TSel.c) (s:=a2) (TK rfl) rfl rfl rfl rfl fun hL12=>?_;refine S BI (nil ?_);refine cE hE (fun hc13 hE=>?_) (fun hc13 hE=>?_)
    ·try dsimp only at hc13
     have hf13:=of_decide_eq_true hc13;refine sk hK10 ?_;clear hK10 K10;refine seqJH (TA 2 (TA 3 (TA 4 (TA 5 (TA 6 (TA 12 KeepsT.nil)))))) (fun(z:(Sl Z1))=>[(11,.a (.d (Sl.d 2 Z1.c (some tk1) z)))]) (fun z=>(H.set tk1 (some (.tok 2 z.l.length)))) (fun z=>Z95_j14 s12_9 ((Z95_l7 a0 a1 a2 a3 a4 (Z95_n n) n7)) z=some r) ?_ ?_
     ·intro K14 hK14;refine block ?_;refine seqR (S Mv (S Mv ?_));obtain⟨x17,gx17,hE⟩:=bO hE;refine S (ix TSel.c s12_9 gx17) (S Ld ?_);refine Sl ?_;refine Sf ?_;refine nil ?_;refine freezeA 13 _ rfl (KA 2 (KA 3 (KA 4 (KA 5 (KA 6 (KA 11 (KA 12 Keeps.nil))))))) ?_;refine seqR (S Fv (S Ld (nil ?_)));refine block ?_;refine seqR (S BI (S As (nil ?_)));refine cE hE (fun hc20 hE=>?_) (fun hc20 hE=>?_)
      ·refine seqR (S Ld (S Fv (S Ld ?_)));obtain⟨x22,gx22,hE⟩:=bO hE;refine Sc rfl rfl (Z86_walk gx22) ?_;refine S Mv (S EX (S EX ?_));refine Sl ?_;refine Sf ?_;refine S As (nil ?_);refine freezeA 14 _ rfl (KA 2 (KA 3 (KA 4 (KA 5 (KA 6 (KA 11 (KA 12 (KA 15 Keeps.nil)))))))) ?_;refine seqR (S Mv (S NB (nil ?_)));refine cE hE (fun hc24 hE=>?_) (fun hc24 hE=>?_)
       ·refine region ?_;refine S Mv (S Mv (S BU (S BV ?_)));obtain⟨x25,gx25,hE⟩:=bO hE;refine SH (am Z1.c (TK rfl) rfl (TK rfl) (TK rfl) gx25) ?_;refine hq (H.set tk1 (some (.tok 2 x25.l.length))) ?_;refine S As (nil ?_);exact hK14 _ x25 Weak.toA hE
       refine AWp.draw rfl ?_;refine Sd Mv (Sd Ld (Sd Mv (Sd Ld (Sd Fv (Sd Ld ?_)))));obtain⟨x26,gx26,hE⟩:=bO hE;refine Scd rfl rfl (Z94_walk gx26) ?_;refine Sd Mv ?_;obtain⟨x27,gx27,hE⟩:=bO hE;refine Scd rfl rfl (Z88_walk gx27) ?_;obtain⟨x28,gx28,hE⟩:=bO hE;refine DOps.sH (appM (f:=Z1.c) (TK rfl) rfl (TK rfl) (TK rfl) ⟨_,rfl⟩ rfl rfl (by decide) rfl rfl rfl rfl hpG rfl gx28) rfl ?_;refine DOps.Dh (H.set tk1 (some (.tok 2 x28.l.length))) ?_
       refine Sd As ?_;refine DOps.nil (by decide +kernel) ?_;exact hK14 _ x28 Weak.toA hE
      refine seqR (S BI (S As (nil ?_)));refine cE hE (fun hc30 hE=>?_) (fun hc30 hE=>?_)
      ·refine seqR (S Mv (S As (nil ?_)));refine seqJH (TA 2 (TA 3 (TA 4 (TA 5 (TA 6 (TA 12 (TA 13 KeepsT.nil))))))) (fun(z:(Sl Z1)×Bs)=>[(11,.a (.d (Sl.d 2 Z1.c (some tk1) z.1))),(16,.a (.d (.str z.2)))]) (fun z=>(H.set tk1 (some (.tok 2 z.1.l.length)))) (fun z=>Z95_j32 a0 a1 a4 s12_9 x17 ((Z95_l7 a0 a1 a2 a3 a4 (Z95_n n) n7)) (Z95_n n) z.1 z.2=some r) ?_ ?_
       ·intro K32 hK32;refine seqR (S Fv (S Ld (S BS (nil ?_))));refine cE hE (fun hc38 hE=>?_) (fun hc38 hE=>?_)
        ·refine seqR (S Ld (S Fv (S Ld ?_)));obtain⟨x40,gx40,hE⟩:=bO hE;refine Sc rfl rfl (Z94_walk gx40) ?_;refine S As (nil ?_);refine seqJH (TA 2 (TA 3 (TA 4 (TA 5 (TA 6 (TA 12 (TA 13 (TA 16 KeepsT.nil)))))))) (fun(z:(Sl Z1))=>[(11,.a (.d (Sl.d 2 Z1.c (some tk1) z)))]) (fun z=>(H.set tk1 (some (.tok 2 z.l.length)))) (fun z=>Z95_j41 a0 a1 a3 a4 s12_9 x17 x40 ((Z95_l7 a0 a1 a2 a3 a4 (Z95_n n) n7)) (Z95_n n) z=some r) ?_ ?_
         ·intro K41 hK41;refine seqR (S Mv (S BS (nil ?_)));refine cE hE (fun hc46 hE=>?_) (fun hc46 hE=>?_)
          ·refine region ?_;refine S Mv (S Mv (S BU (S BV ?_)));obtain⟨x47,gx47,hE⟩:=bO hE;refine SH (am Z1.c (TK rfl) rfl (TK rfl) (TK rfl) gx47) ?_;refine hq (H.set tk1 (some (.tok 2 x47.l.length))) ?_;refine S As (nil ?_);exact hK41 _ x47 Weak.toA hE
          refine AWp.skip ?_;exact hK41 _ s11_8 Weak.toA hE
         rintro s11_42 hE;try dsimp only at hE
         unfold Z95_j41 at hE;refine region ?_;refine S Mv (S Ld (S Mv (S Mv (S Mv ?_))));obtain⟨x43,gx43,hE⟩:=bO hE;refine Sc rfl rfl (Z88_walk gx43) ?_;obtain⟨x44,gx44,hE⟩:=bO hE;refine SH (am Z1.c (TK rfl) rfl (TK rfl) (TK rfl) gx44) ?_;refine hq (H.set tk1 (some (.tok 2 x44.l.length))) ?_;refine S As (nil ?_);exact hK32 _ (x44,x40) Weak.toA hE
        refine AWp.skip ?_;exact hK32 _ (s11_8,a3) Weak.toA hE
       rintro ⟨s11_33,s16_34⟩ hE;try dsimp only at hE
       unfold Z95_j32 at hE;refine region ?_;refine S Mv (S Ld (S Ld (S Fv ?_)));refine s0 (loadV (TK rfl) rfl rfl (congrArg (fun x=>some (A.d x)) (TSel.FSelsD_eq _))) rfl ?_;refine S Mv (S Mv ?_);obtain⟨x35,gx35,hE⟩:=bO hE;refine Sc rfl rfl (ih_39 gx35) ?_;obtain⟨x36,gx36,hE⟩:=bO hE;refine SH (am Z1.c (TK rfl) rfl (TK rfl) (TK rfl) gx36) ?_;refine hq (H.set tk1 (some (.tok 2 x36.l.length))) ?_;refine S As (nil ?_)
       exact hK14 _ x36 Weak.toA hE
      refine AWp.draw rfl ?_;refine Sd Mv (Sd Ld (Sd Ld (Sd Fv ?_)));refine DOps.s0 (loadV (TK rfl) rfl rfl (congrArg (fun x=>some (A.d x)) (TSel.FSelsD_eq _))) rfl ?_;refine Sd Ld (Sd Mv (Sd Fv (Sd Ld ?_)));obtain⟨x48,gx48,hE⟩:=bO hE;refine Scd rfl rfl (Z98_walk gx48) ?_;refine Sd Mv ?_;obtain⟨x49,gx49,hE⟩:=bO hE;refine DOps.s0 (catM rfl rfl gx49) rfl ?_;refine Sd Ld ?_;obtain⟨x50,gx50,hE⟩:=bO hE
      refine Scd rfl rfl (Z93_walk gx50) ?_;obtain⟨x51,gx51,hE⟩:=bO hE;refine DOps.s0 (catM rfl rfl gx51) rfl ?_;obtain⟨x52,gx52,hE⟩:=bO hE;refine Scd rfl rfl (ih_39 gx52) ?_;obtain⟨x53,gx53,hE⟩:=bO hE;refine DOps.sH (appM (f:=Z1.c) (TK rfl) rfl (TK rfl) (TK rfl) ⟨_,rfl⟩ rfl rfl (by decide) rfl rfl rfl rfl hpG rfl gx53) rfl ?_;refine DOps.Dh (H.set tk1 (some (.tok 2 x53.l.length))) ?_;refine Sd As ?_
      refine DOps.nil (by decide +kernel) ?_;exact hK14 _ x53 Weak.toA hE
     rintro s11_15 hE;try dsimp only at hE
     unfold Z95_j14 at hE;refine region ?_;refine S Mv ?_;refine SI ?_;refine S As (nil ?_);exact hK7 _ (n7,s11_15,(s12_9+1)) Weak.toA hE (Nat.lt_succ_self _)
    refine AWp.exit ?_;exact hK3 _ s11_8 Weak.toA hE
 rintro s11_4 hE;try dsimp only at hE
 unfold Z95_j3 at hE;refine seqR (S Mv (S As (nil ?_)));refine AWp.dropTok 10 rfl ?_;refine AWp.ret ?_;repeat (first|refine xBlock_ret ?_|refine xThen_ret ?_)
 obtain rfl:=Option.some.inj hE;refine retQ.retF H rfl ⟨rfl,rfl⟩ ?_
 first|exact Heap.sub_set htk1|(simp only [Heap.set_set]; exact Heap.sub_set htk1)
theorem Z95_all:∀(n:Nat),(∀{a0:TDoc}{a1:Z6}{a2:Sl TSel}{a3 a4:Bs}{w2:Option Nat}{r:Sl Z1},Z95_n n a0 a1 a2 a3 a4=some r->∀(H:Heap),ACalls Tryz.prog 39 [.agg (TDoc.c a0),.agg (Z6.c a1),.d (Sl.d 7 TSel.c w2 a2),.d (.str a3),.d (.str a4)] H fun v h'=>v=.a (.d (Sl.d 2 Z1.c none r))/\h'=H)
 | 0=>fun hE=>by first|cases hE|(rw [Z95_n] at hE; cases hE)
 | n+1=>Z95_step n (Z95_all n)
def Z95 (a0:TDoc) (a1:Z6) (a2:(Sl TSel)) (a3:Bs) (a4:Bs):Option (Sl Z1):=Z95_n F0 a0 a1 a2 a3 a4
theorem Z95_walk {a0:TDoc}{a1:Z6}{a2:Sl TSel}{a3 a4:Bs}{w2:Option Nat}{r:Sl Z1}(hE:Z95 a0 a1 a2 a3 a4=some r) (H:Heap) :ACalls Tryz.prog 39 [.agg (TDoc.c a0),.agg (Z6.c a1),.d (Sl.d 7 TSel.c w2 a2),.d (.str a3),.d (.str a4)] H fun v h'=>v=.a (.d (Sl.d 2 Z1.c none r))/\h'=H:=(Z95_all F0) hE H 
def Z59 (a0:Int):Option Bs:=bif (decide (a0=(1:Int))) then(some ([81,117,101,114,121]:Bs)) else(bif (decide (a0=(2:Int))) then(some ([77,117,116,97,116,105,111,110]:Bs)) else(bif (decide (a0=(3:Int))) then(some ([83,117,98,115,99,114,105,112,116,105,111,110]:Bs)) else(some ([]:Bs))))
theorem Z59_walk {a0:Int}{r:Bs}(hE:Z59 a0=some r) (H:Heap) :ACalls Tryz.prog 41 [.d (.int .i64 a0)] H fun v h'=>v=.a (.d (.str r))/\h'=H:=by
 unfold Z59 at hE;refine ACalls.oW 10 [.tmp 2] Tryz.call41 Tryz.func41 ?_;refine seqR (S As (nil ?_));refine seqK fun K2 hK2=>?_;refine seqR (S Mv (nil ?_));refine block ?_;refine seqR (S BI (S As (nil ?_)));refine cE hE (fun hc5 hE=>?_) (fun hc5 hE=>?_)
 ·refine seqR (S As (nil ?_));exact rt hE
 refine seqR (S BI (S As (nil ?_)));refine cE hE (fun hc8 hE=>?_) (fun hc8 hE=>?_)
 ·refine seqR (S As (nil ?_));exact rt hE
 refine seqR (S BI (S As (nil ?_)));refine cE hE (fun hc11 hE=>?_) (fun hc11 hE=>?_)
 ·refine seqR (S As (nil ?_));exact rt hE
 refine sk hK2 ?_;clear hK2 K2;refine seqR (S As (nil ?_));exact rt hE
def Z92_j2  :Option Bool:=some false
def Z92_l5 (a0:(Sl Bs)) (a1:Bs) :Nat->Nat->Option Bool
 | 0,_=>none
 | n5+1,s5_6=>bif (decide (((s5_6:Nat):Int)<((a0.l.length:Nat):Int))) then((a0.l[s5_6]?).bind fun x13=>bif ((x13==a1)) then(some true) else((Z92_l5 a0 a1 n5) (s5_6+1))) else(Z92_j2   )
def Z92 (a0:(Sl Bs)) (a1:Bs):Option Bool:=Z92_l5 a0 a1 (a0.l.length+1) 0
theorem Z92_walk {a0:Sl Bs}{a1:Bs}{w0:Option Nat}{r:Bool}(hE:Z92 a0 a1=some r) (H:Heap) :ACalls Tryz.prog 84 [.d (Sl.d 1 strE w0 a0),.d (.str a1)] H fun v h'=>v=.a (.d (.bool r))/\h'=H:=by
 unfold Z92 at hE;refine ACalls.oW 18 [.tmp 4] Tryz.call84 Tryz.func84 ?_;refine seqR (S As (nil ?_));refine seqJH KeepsT.nil (fun(z:Unit)=>[]) (fun z=>H) (fun z=>Z92_j2 =some r) ?_ ?_
 ·intro K2 hK2;refine seqR (S As (nil ?_));refine block ?_;refine loopH (TA 0 (TA 1 KeepsT.nil)) (fun(z:Nat×Nat)=>[(5,.a (.d (.int .i64 ((z.2:Nat):Int))))]) (fun z=>H) (fun z=>z.1) (fun z=>Z92_l5 a0 a1 z.1 z.2=some r) ((a0.l.length+1),0) hE Weak.toA ?_;rintro ⟨n5,s5_6⟩ hE K5 hK5;try dsimp only at hE
  cases n5 with
  | zero=>cases hE
  | succ n5 =>
    rw [Z92_l5] at hE;refine seqK fun K7 hK7=>?_;refine seqR (S Mv (S Mv ?_));refine sLen (f:=strE) (s:=a0) (TK rfl) rfl rfl rfl rfl fun hL9=>?_;refine S BI (nil ?_);refine cE hE (fun hc10 hE=>?_) (fun hc10 hE=>?_)
    ·try dsimp only at hc10
     have hf10:=of_decide_eq_true hc10;refine sk hK7 ?_;clear hK7 K7;refine seqK fun K11 hK11=>?_;refine block ?_;refine seqR (S Mv (S Mv ?_));obtain⟨x13,gx13,hE⟩:=bO hE;refine S (ix strE s5_6 gx13) (S Ld (S Mv (S BS (nil ?_))));refine cE hE (fun hc14 hE=>?_) (fun hc14 hE=>?_)
     ·refine seqR (S As (nil ?_));exact rt hE
     refine sk hK11 ?_;clear hK11 K11;refine region ?_;refine S Mv ?_;refine SI ?_;refine S As (nil ?_);exact hK5 _ (n5,(s5_6+1)) Weak.toA hE (Nat.lt_succ_self _)
    refine AWp.exit ?_;exact hK2 _ () Weak.toA hE
 rintro _ hE;try dsimp only at hE
 unfold Z92_j2 at hE;refine seqR (S As (nil ?_));exact rt hE
end Go.Proofs
