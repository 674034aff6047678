import Derived.Test.YtimiconoebjfbaaGreatDoorV2
set_option maxRecDepth 100000
set_option maxHeartbeats 2000000
set_option linter.unusedVariables false
set_option linter.unusedSimpArgs false
namespace Go.Proofs
open Go Go.Ab
open AOps Cert AWp Keeps KeepsT
variable {lou:Lou}
def Z51 (a0:Bs):Option Bool:=some (((((a0==([73,110,116]:Bs)))||((a0==([83,116,114,105,110,103]:Bs))))||((a0==([66,111,111,108,101,97,110]:Bs))))||((a0==([73,68]:Bs))))
theorem Z51_walk {a0:Bs}{r:Bool}(hE:Z51 a0=some r) (H:Heap) :ACalls Tryz.prog 67 [.d (.str a0)] H fun v h'=>v=.a (.d (.bool r))/\h'=H:=by
 unfold Z51 at hE;refine ACalls.oW 17 [.tmp 2] Tryz.call67 Tryz.func67 ?_;refine seqR ?_;refine S As ?_;refine nil ?_;refine seqR ?_;refine S Mv (S BS (S Mv (g0 Mv ?_)));refine g1 6 rfl BS ?_;refine S PO (S Mv (g0 Mv ?_));refine g1 10 rfl BS ?_;refine S PO (S Mv (g0 Mv ?_));refine g1 14 rfl BS ?_;refine S PO (S As ?_);refine nil ?_;exact rt hE
def Z17 (a0:Bs):Option Bool:=guardO ((decide ((2:Int)<=((a0.length:Nat):Int)))) (a0[0]?) (0:UInt8) fun x4=>guardO (((decide ((2:Int)<=((a0.length:Nat):Int)))&&(decide (((x4.toNat:Nat):Int)=(95:Int))))) (a0[1]?) (0:UInt8) fun x5=>some (((decide ((2:Int)<=((a0.length:Nat):Int)))&&(decide (((x4.toNat:Nat):Int)=(95:Int))))&&(decide (((x5.toNat:Nat):Int)=(95:Int))))
theorem Z17_walk {a0:Bs}{r:Bool}(hE:Z17 a0=some r) (H:Heap) :ACalls Tryz.prog 126 [.d (.str a0)] H fun v h'=>v=.a (.d (.bool r))/\h'=H:=by
 unfold Z17 at hE;refine ACalls.oW 16 [.tmp 2] Tryz.call126 Tryz.func126 ?_;refine seqR ?_;refine S As ?_;refine nil ?_;refine seqR ?_;refine S Mv ?_;refine sLenS (TK rfl) rfl rfl rfl rfl fun hL3=>?_;refine S BI (S Mv (g0 Mv ?_));obtain⟨x4,gx4,hE⟩:=gO hE;refine gC rfl rfl (fun hC=>ungdA (k:=7) rfl (idxSn (n:=0) (TK rfl) rfl rfl rfl (gx4 hC))) rfl ?_;refine g1 8 rfl BI ?_;refine S PA (S Mv (g0 Mv ?_))
 obtain⟨x5,gx5,hE⟩:=gO hE;refine gC rfl rfl (fun hC=>ungdA (k:=12) rfl (idxSn (n:=1) (TK rfl) rfl rfl rfl (gx5 hC))) rfl ?_;refine g1 13 rfl BI ?_;refine S PA (S As ?_);refine nil ?_;exact rt hE
def Z52 (a0:Bs):Option Bool:=(Z16 a0).bind fun x3=>guardO (x3) (Z17 a0) false fun x4=>some (x3&&(!x4))
theorem Z52_walk {a0:Bs}{r:Bool}(hE:Z52 a0=some r) (H:Heap) :ACalls Tryz.prog 104 [.d (.str a0)] H fun v h'=>v=.a (.d (.bool r))/\h'=H:=by
 unfold Z52 at hE;refine ACalls.oW 10 [.tmp 2] Tryz.call104 Tryz.func104 ?_;refine seqR ?_;refine S As ?_;refine nil ?_;refine seqR ?_;refine S Mv ?_;obtain⟨x3,gx3,hE⟩:=bO hE;refine Sc rfl rfl (Z16_walk gx3) ?_;refine S Mv (g0 Mv ?_);obtain⟨x4,gx4,hE⟩:=gO hE;refine gc1 6 rfl rfl rfl rfl rfl (fun hC=>Z17_walk (gx4 hC)) ?_;refine g1 7 rfl NB ?_;refine S PA (S As ?_);refine nil ?_;exact rt hE
def Z61_j5  (s9_6:(Sl TFault)):Option (Sl TFault):=some s9_6
def Z61_j3 (a2:Bool) (a3:Bs)  (s9_4:(Sl TFault)):Option (Sl TFault):=bif a2 then((appC 24 s9_4 (⟨false,[(TFault.mk (7:Int) a3)]⟩:Sl TFault)).bind fun x10=>Z61_j5   x10) else(Z61_j5   s9_4)
def Z61 (a0:Bs) (a1:Bool) (a2:Bool) (a3:Bs):Option (Sl TFault):=guardO (!a1) (Z52 a0) false fun x12=>bif (a1||(!x12)) then((appC 24 (Sl.nil:Sl TFault) (⟨false,[(TFault.mk (6:Int) a3)]⟩:Sl TFault)).bind fun x14=>Z61_j3 a2 a3  x14) else(Z61_j3 a2 a3  (Sl.nil:Sl TFault))
theorem Z61_walk {a0:Bs}{a1 a2:Bool}{a3:Bs}{r:Sl TFault}(hE:Z61 a0 a1 a2 a3=some r) (H:Heap) :ACalls Tryz.prog 68 [.d (.str a0),.d (.bool a1),.d (.bool a2),.d (.str a3)] H fun v h'=>v=.a (.d (Sl.d 2 TFault.c none r))/\h'=H:=by
 unfold Z61 at hE;refine ACalls.oW 28 [.tmp 8] Tryz.call68 Tryz.func68 ?_;refine AWp.tok 2 fun tk1 htk1=>?_;refine seqR ?_;refine s0 (assignNil (k':=2) rfl) rfl ?_;refine nil ?_;refine seqR ?_;refine S As ?_;refine nil ?_;refine AWp.nilTok 9 2 tk1 rfl hpG ?_;refine seqJH (TA 2 (TA 3 KeepsT.nil)) (fun(z:(Sl TFault))=>[(9,.a (.d (Sl.d 2 TFault.c (some tk1) z)))]) (fun z=>(H.set tk1 (some (.tok 2 z.l.length)))) (fun z=>Z61_j3 a2 a3 z=some r) ?_ ?_
 ·intro K3 hK3;refine seqR ?_;refine S Mv (S Mv (g0 Mv ?_));obtain⟨x12,gx12,hE⟩:=gO hE;refine gc1 12 rfl rfl rfl rfl rfl (fun hC=>Z52_walk (gx12 hC)) ?_;refine g1 13 rfl NB ?_;refine S PO ?_;refine nil ?_;refine cE hE (fun hc13 hE=>?_) (fun hc13 hE=>?_)
  ·refine region ?_;refine S Mv (S Mv (S BU (S BV ?_)));obtain⟨x14,gx14,hE⟩:=bO hE;refine sH (appM (f:=TFault.c) (TK rfl) rfl (TK rfl) (TK rfl) ⟨_,rfl⟩ rfl rfl (by decide) rfl rfl rfl rfl hpG rfl gx14) rfl ?_;refine hq (H.set tk1 (some (.tok 2 x14.l.length))) ?_;refine S As ?_;refine nil ?_;exact hK3 _ x14 Weak.toA hE
  refine AWp.skip ?_;exact hK3 _ (Sl.nil:Sl TFault) Weak.toA hE
 rintro s9_4 hE;try dsimp only at hE
 unfold Z61_j3 at hE;refine seqJH KeepsT.nil (fun(z:(Sl TFault))=>[(9,.a (.d (Sl.d 2 TFault.c (some tk1) z)))]) (fun z=>(H.set tk1 (some (.tok 2 z.l.length)))) (fun z=>Z61_j5 z=some r) ?_ ?_
 ·intro K5 hK5;refine seqR ?_;refine S Mv ?_;refine nil ?_;refine cE hE (fun hc9 hE=>?_) (fun hc9 hE=>?_)
  ·refine region ?_;refine S Mv (S Mv (S BU (S BV ?_)));obtain⟨x10,gx10,hE⟩:=bO hE;refine sH (appM (f:=TFault.c) (TK rfl) rfl (TK rfl) (TK rfl) ⟨_,rfl⟩ rfl rfl (by decide) rfl rfl rfl rfl hpG rfl gx10) rfl ?_;refine hq (H.set tk1 (some (.tok 2 x10.l.length))) ?_;refine S As ?_;refine nil ?_;exact hK5 _ x10 Weak.toA hE
  refine AWp.skip ?_;exact hK5 _ s9_4 Weak.toA hE
 rintro s9_6 hE;try dsimp only at hE
 unfold Z61_j5 at hE;refine seqR ?_;refine S Mv (S As ?_);refine nil ?_;refine AWp.dropTok 8 rfl ?_;refine AWp.ret ?_;repeat (first|refine xBlock_ret ?_|refine xThen_ret ?_)
 obtain rfl:=Option.some.inj hE;refine retQ.retF H rfl ⟨rfl,rfl⟩ ?_
 first|exact Heap.sub_set htk1|(simp only [Heap.set_set]; exact Heap.sub_set htk1)
theorem Z61_tok {a0:Bs}{a1 a2:Bool}{a3:Bs}{r:Sl TFault}(hE:Z61 a0 a1 a2 a3=some r) (H:Heap){tk0:Nat}(htk0:H tk0=some (.tok 2 0)):ACalls Tryz.prog 68 [.d (.str a0),.d (.bool a1),.d (.bool a2),.d (.str a3)] H fun v h'=>v=.a (.d (Sl.d 2 TFault.c (some tk0) r))/\h'=H.set tk0 (some (.tok 2 r.l.length)):=by
 unfold Z61 at hE;refine ACalls.oW 28 [.tmp 8] Tryz.call68 Tryz.func68 ?_;refine AWp.heqA (h':=(H.set tk0 (some (.tok 2 0)))) (by funext n_; simp only [Heap.set]; (repeat' split)<;>simp_all) ?_;refine seqR ?_;refine S As ?_;refine nil ?_;refine seqR ?_;refine S As ?_;refine nil ?_;refine AWp.nilTok 9 2 tk0 rfl hpG ?_;refine seqJH (TA 2 (TA 3 KeepsT.nil)) (fun(z:(Sl TFault))=>[(9,.a (.d (Sl.d 2 TFault.c (some tk0) z)))]) (fun z=>(H.set tk0 (some (.tok 2 z.l.length)))) (fun z=>Z61_j3 a2 a3 z=some r) ?_ ?_
 ·intro K3 hK3;refine seqR ?_;refine S Mv (S Mv (g0 Mv ?_));obtain⟨x12,gx12,hE⟩:=gO hE;refine gc1 12 rfl rfl rfl rfl rfl (fun hC=>Z52_walk (gx12 hC)) ?_;refine g1 13 rfl NB ?_;refine S PO ?_;refine nil ?_;refine cE hE (fun hc13 hE=>?_) (fun hc13 hE=>?_)
  ·refine region ?_;refine S Mv (S Mv (S BU (S BV ?_)));obtain⟨x14,gx14,hE⟩:=bO hE;refine sH (appM (f:=TFault.c) (TK rfl) rfl (TK rfl) (TK rfl) ⟨_,rfl⟩ rfl rfl (by decide) rfl rfl rfl rfl hpG rfl gx14) rfl ?_;refine hq (H.set tk0 (some (.tok 2 x14.l.length))) ?_;refine S As ?_;refine nil ?_;exact hK3 _ x14 Weak.toA hE
  refine AWp.skip ?_;exact hK3 _ (Sl.nil:Sl TFault) Weak.toA hE
 rintro s9_4 hE;try dsimp only at hE
 unfold Z61_j3 at hE;refine seqJH KeepsT.nil (fun(z:(Sl TFault))=>[(9,.a (.d (Sl.d 2 TFault.c (some tk0) z)))]) (fun z=>(H.set tk0 (some (.tok 2 z.l.length)))) (fun z=>Z61_j5 z=some r) ?_ ?_
 ·intro K5 hK5;refine seqR ?_;refine S Mv ?_;refine nil ?_;refine cE hE (fun hc9 hE=>?_) (fun hc9 hE=>?_)
  ·refine region ?_;refine S Mv (S Mv (S BU (S BV ?_)));obtain⟨x10,gx10,hE⟩:=bO hE;refine sH (appM (f:=TFault.c) (TK rfl) rfl (TK rfl) (TK rfl) ⟨_,rfl⟩ rfl rfl (by decide) rfl rfl rfl rfl hpG rfl gx10) rfl ?_;refine hq (H.set tk0 (some (.tok 2 x10.l.length))) ?_;refine S As ?_;refine nil ?_;exact hK5 _ x10 Weak.toA hE
  refine AWp.skip ?_;exact hK5 _ s9_4 Weak.toA hE
 rintro s9_6 hE;try dsimp only at hE
 unfold Z61_j5 at hE;refine seqR ?_;refine S Mv (S As ?_);refine nil ?_;exact rt hE
def Z55_j2  :Option Bool:=some false
def Z55_j10 (a0:TDef)  (s12_11:Bool):Option Bool:=bif s12_11 then(some (decide (((a0.FMembers.l.length:Nat):Int)=(0:Int)))) else(bif (decide (a0.FKind=(5:Int))) then(some (decide (((a0.FInputs.l.length:Nat):Int)=(0:Int)))) else(Z55_j2   ))
def Z55_j5 (a0:TDef)  (s5_6:Bool):Option Bool:=bif s5_6 then(some (decide (((a0.FFields.l.length:Nat):Int)=(0:Int)))) else(bif (decide (a0.FKind=(3:Int))) then(Z55_j10 a0  (decide (a0.FKind=(3:Int)))) else(Z55_j10 a0  (decide (a0.FKind=(4:Int)))))
def Z55 (a0:TDef):Option Bool:=bif (decide (a0.FKind=(1:Int))) then(Z55_j5 a0  (decide (a0.FKind=(1:Int)))) else(Z55_j5 a0  (decide (a0.FKind=(2:Int))))
theorem Z55_walk {a0:TDef}{r:Bool}(hE:Z55 a0=some r) (H:Heap) :ACalls Tryz.prog 69 [.agg (TDef.c a0)] H fun v h'=>v=.a (.d (.bool r))/\h'=H:=by
 unfold Z55 at hE;refine ACalls.oW 25 [.tmp 2] Tryz.call69 Tryz.func69 ?_;refine seqR ?_;refine S BX (S As ?_);refine nil ?_;refine seqJH KeepsT.nil (fun(z:Unit)=>[]) (fun z=>H) (fun z=>Z55_j2 =some r) ?_ ?_
 ·intro K2 hK2;refine seqR ?_;refine S Fv (S Ld ?_);refine nil ?_;refine block ?_;refine seqJH (TA 1 (TA 4 KeepsT.nil)) (fun(z:Bool)=>[(5,.a (.d (.bool z)))]) (fun z=>H) (fun z=>Z55_j5 a0 z=some r) ?_ ?_
  ·intro K5 hK5;refine seqR ?_;refine S BI (S As ?_);refine nil ?_;refine cE hE (fun hc22 hE=>?_) (fun hc22 hE=>?_)
   ·refine AWp.skip ?_;exact hK5 _ (decide (a0.FKind=(1:Int))) Weak.toA hE
   refine region ?_;refine S BI (S As ?_);refine nil ?_;exact hK5 _ (decide (a0.FKind=(2:Int))) Weak.toA hE
  rintro s5_6 hE;try dsimp only at hE
  unfold Z55_j5 at hE;refine cE hE (fun hc7 hE=>?_) (fun hc7 hE=>?_)
  ·refine seqR ?_;refine S Fv (S Ld ?_);refine sLen (f:=TField.c) (s:=a0.FFields) (TK rfl) rfl rfl rfl rfl fun hL9=>?_;refine S BI (S As ?_);refine nil ?_;exact rt hE
  refine seqJH (TA 1 (TA 4 KeepsT.nil)) (fun(z:Bool)=>[(12,.a (.d (.bool z)))]) (fun z=>H) (fun z=>Z55_j10 a0 z=some r) ?_ ?_
  ·intro K10 hK10;refine seqR ?_;refine S BI (S As ?_);refine nil ?_;refine cE hE (fun hc20 hE=>?_) (fun hc20 hE=>?_)
   ·refine AWp.skip ?_;exact hK10 _ (decide (a0.FKind=(3:Int))) Weak.toA hE
   refine region ?_;refine S BI (S As ?_);refine nil ?_;exact hK10 _ (decide (a0.FKind=(4:Int))) Weak.toA hE
  rintro s12_11 hE;try dsimp only at hE
  unfold Z55_j10 at hE;refine cE hE (fun hc12 hE=>?_) (fun hc12 hE=>?_)
  ·refine seqR ?_;refine S Fv (S Ld ?_);refine sLen (f:=TMember.c) (s:=a0.FMembers) (TK rfl) rfl rfl rfl rfl fun hL14=>?_;refine S BI (S As ?_);refine nil ?_;exact rt hE
  refine seqR ?_;refine S BI (S As ?_);refine nil ?_;refine cE hE (fun hc16 hE=>?_) (fun hc16 hE=>?_)
  ·refine seqR ?_;refine S Fv (S Ld ?_);refine sLen (f:=TInput.c) (s:=a0.FInputs) (TK rfl) rfl rfl rfl rfl fun hL18=>?_;refine S BI (S As ?_);refine nil ?_;exact rt hE
  refine AWp.skip ?_;exact hK2 _ () Weak.toA hE
 rintro _ hE;try dsimp only at hE
 unfold Z55_j2 at hE;refine seqR ?_;refine S As ?_;refine nil ?_;exact rt hE
def Z45_j2  (y3_l0:TDef):Option (TDef×Bool):=some ((TDef.mk (0:Int) ([]:Bs) (Sl.nil:Sl Bs) (Sl.nil:Sl TDir) (Sl.nil:Sl TField) (Sl.nil:Sl TMember) (Sl.nil:Sl TInput)),false)
def Z45_l6 (a0:TDoc) (a1:Bs) :Nat->Nat->TDef->Option (TDef×Bool)
 | 0,_,_=>none
 | n6+1,s6_7,y8_l0=>bif (decide (((s6_7:Nat):Int)<((a0.FDefs.l.length:Nat):Int))) then((a0.FDefs.l[s6_7]?).bind fun x15=>bif ((x15.FName==a1)) then((a0.FDefs.l[s6_7]?).bind fun x18=>some (x18,true)) else((Z45_l6 a0 a1 n6) (s6_7+1) y8_l0)) else(Z45_j2   y8_l0)
def Z45 (a0:TDoc) (a1:Bs):Option (TDef×Bool):=Z45_l6 a0 a1 (a0.FDefs.l.length+1) 0 TDef.zero
theorem Z45_walk {a0:TDoc}{a1:Bs}{r:TDef×Bool}(hE:Z45 a0 a1=some r) (H:Heap) :ACalls Tryz.prog 36 [.agg (TDoc.c a0),.d (.str a1)] H fun v h'=>v=.tup [.agg (TDef.c r.1),.d (.bool r.2)]/\h'=H:=by
 unfold Z45 at hE;refine ACalls.oW 28 [.cell 4 82,.tmp 5] Tryz.call36 Tryz.func36 ?_;refine seqR ?_;refine S BX ?_;refine Sl ?_;refine S As ?_;refine nil ?_;refine seqJ (TA 4 KeepsT.nil) (fun(z:TDef)=>[]) (fun z=>[TDef.c z]) (fun z=>H) (fun z=>Z45_j2 z=some r) ?_ ?_
 ·intro K2 hK2;refine seqR ?_;refine S As ?_;refine nil ?_;refine block ?_;refine loopO (TA 1 (TA 2 (TA 4 KeepsT.nil))) (fun(z:Nat×Nat×TDef)=>[(6,.a (.d (.int .i64 ((z.2.1:Nat):Int))))]) (fun z=>[TDef.c z.2.2]) (fun z=>H) (fun z=>z.1) (fun z=>Z45_l6 a0 a1 z.1 z.2.1 z.2.2=some r) ((a0.FDefs.l.length+1),0,TDef.zero) hE Weak.toA ?_;rintro ⟨n6,s6_7,y8_l0⟩ hE K6 hK6;try dsimp only at hE
  cases n6 with
  | zero=>cases hE
  | succ n6 =>
    rw [Z45_l6] at hE;refine seqK fun K9 hK9=>?_;refine seqR ?_;refine S Mv (S Fv (S Ld ?_));refine sLen (f:=TDef.c) (s:=a0.FDefs) (TK rfl) rfl rfl rfl rfl fun hL11=>?_;refine S BI ?_;refine nil ?_;refine cE hE (fun hc12 hE=>?_) (fun hc12 hE=>?_)
    ·try dsimp only at hc12
     have hf12:=of_decide_eq_true hc12;refine sk hK9 ?_;clear hK9 K9;refine seqK fun K13 hK13=>?_;refine block ?_;refine seqR ?_;refine S Fv (S Ld (S Mv ?_));obtain⟨x15,gx15,hE⟩:=bO hE;refine s0 (idxMn (f:=TDef.c) (n:=s6_7) (TK rfl) rfl (TK rfl) rfl rfl rfl gx15) rfl ?_;refine S Fv (S Ld (S Mv (S BS ?_)));refine nil ?_;refine cE hE (fun hc16 hE=>?_) (fun hc16 hE=>?_)
     ·refine seqR ?_;refine S Fv (S Ld (S Mv ?_));obtain⟨x18,gx18,hE⟩:=bO hE;refine s0 (idxMn (f:=TDef.c) (n:=s6_7) (TK rfl) rfl (TK rfl) rfl rfl rfl gx18) rfl ?_;refine S Ld ?_;refine Sf ?_;refine S As ?_;refine nil ?_;exact rt hE
     refine sk hK13 ?_;clear hK13 K13;refine region ?_;refine S Mv ?_;refine SI ?_;refine S As ?_;refine nil ?_;exact hK6 _ (n6,(s6_7+1),y8_l0) Weak.toA hE (Nat.lt_succ_self _)
    refine AWp.exit ?_;exact hK2 _ y8_l0 Weak.toA hE
 rintro y3_l0 hE;try dsimp only at hE
 unfold Z45_j2 at hE;refine seqR ?_;refine S BU ?_;refine Sf ?_;refine S As ?_;refine nil ?_;exact rt hE
def Z57_j2  :Option Bool:=some false
def Z57_l5 (a0:(Sl Bs)) (a1:Bs) :Nat->Nat->Option Bool
 | 0,_=>none
 | n5+1,s5_6=>bif (decide (((s5_6:Nat):Int)<((a0.l.length:Nat):Int))) then((a0.l[s5_6]?).bind fun x13=>bif ((x13==a1)) then(some true) else((Z57_l5 a0 a1 n5) (s5_6+1))) else(Z57_j2   )
def Z57 (a0:(Sl Bs)) (a1:Bs):Option Bool:=Z57_l5 a0 a1 (a0.l.length+1) 0
theorem Z57_walk {a0:Sl Bs}{a1:Bs}{w0:Option Nat}{r:Bool}(hE:Z57 a0 a1=some r) (H:Heap) :ACalls Tryz.prog 106 [.d (Sl.d 1 strE w0 a0),.d (.str a1)] H fun v h'=>v=.a (.d (.bool r))/\h'=H:=by
 unfold Z57 at hE;refine ACalls.oW 18 [.tmp 4] Tryz.call106 Tryz.func106 ?_;refine seqR ?_;refine S As ?_;refine nil ?_;refine seqJH KeepsT.nil (fun(z:Unit)=>[]) (fun z=>H) (fun z=>Z57_j2 =some r) ?_ ?_
 ·intro K2 hK2;refine seqR ?_;refine S As ?_;refine nil ?_;refine block ?_;refine loopH (TA 0 (TA 1 KeepsT.nil)) (fun(z:Nat×Nat)=>[(5,.a (.d (.int .i64 ((z.2:Nat):Int))))]) (fun z=>H) (fun z=>z.1) (fun z=>Z57_l5 a0 a1 z.1 z.2=some r) ((a0.l.length+1),0) hE Weak.toA ?_;rintro ⟨n5,s5_6⟩ hE K5 hK5;try dsimp only at hE
  cases n5 with
  | zero=>cases hE
  | succ n5 =>
    rw [Z57_l5] at hE;refine seqK fun K7 hK7=>?_;refine seqR ?_;refine S Mv (S Mv ?_);refine sLen (f:=strE) (s:=a0) (TK rfl) rfl rfl rfl rfl fun hL9=>?_;refine S BI ?_;refine nil ?_;refine cE hE (fun hc10 hE=>?_) (fun hc10 hE=>?_)
    ·try dsimp only at hc10
     have hf10:=of_decide_eq_true hc10;refine sk hK7 ?_;clear hK7 K7;refine seqK fun K11 hK11=>?_;refine block ?_;refine seqR ?_;refine S Mv (S Mv ?_);obtain⟨x13,gx13,hE⟩:=bO hE;refine s0 (idxMn (f:=strE) (n:=s5_6) (TK rfl) rfl (TK rfl) rfl rfl rfl gx13) rfl ?_;refine S Ld (S Mv (S BS ?_));refine nil ?_;refine cE hE (fun hc14 hE=>?_) (fun hc14 hE=>?_)
     ·refine seqR ?_;refine S As ?_;refine nil ?_;exact rt hE
     refine sk hK11 ?_;clear hK11 K11;refine region ?_;refine S Mv ?_;refine SI ?_;refine S As ?_;refine nil ?_;exact hK5 _ (n5,(s5_6+1)) Weak.toA hE (Nat.lt_succ_self _)
    refine AWp.exit ?_;exact hK2 _ () Weak.toA hE
 rintro _ hE;try dsimp only at hE
 unfold Z57_j2 at hE;refine seqR ?_;refine S As ?_;refine nil ?_;exact rt hE
def Z54 (a0:TRef):Option Bool:=guardO ((decide (((a0.FWraps.l.length:Nat):Int)=(1:Int)))) (a0.FWraps.l[0]?) (0:Int) fun x4=>some ((decide (((a0.FWraps.l.length:Nat):Int)=(1:Int)))&&(decide (x4=(1:Int))))
theorem Z54_walk {a0:TRef}{r:Bool}(hE:Z54 a0=some r) (H:Heap) :ACalls Tryz.prog 127 [.agg (TRef.c a0)] H fun v h'=>v=.a (.d (.bool r))/\h'=H:=by
 unfold Z54 at hE;refine ACalls.oW 14 [.tmp 2] Tryz.call127 Tryz.func127 ?_;refine seqR ?_;refine S BX (S As ?_);refine nil ?_;refine seqR ?_;refine S Fv (S Ld ?_);refine sLen (f:=(intE .i64)) (s:=a0.FWraps) (TK rfl) rfl rfl rfl rfl fun hL3=>?_;refine S BI (S Mv (g0 Fv ?_));refine g1 8 rfl Ld ?_;obtain⟨x4,gx4,hE⟩:=gO hE;refine gC rfl rfl (fun hC=>ungdA (k:=9) rfl (idxMn (f:=(intE .i64)) (n:=0) (TK rfl) rfl (TK rfl) rfl rfl rfl (gx4 hC))) rfl ?_
 refine g1 10 rfl Ld ?_;refine g1 11 rfl BI ?_;refine S PA (S As ?_);refine nil ?_;exact rt hE
def Z62_j2  (s3_3:(Sl Bs)):Option (Sl Bs):=some s3_3
def Z62_j13 (s9_8:Nat) (k_next_6:(Sl Bs)->Nat->Option (Sl Bs)) (s3_14:(Sl Bs)):Option (Sl Bs):=k_next_6 s3_14 (s9_8+1)
def Z62_l6 (a0:TDoc) (a1:TDef) (a2:Bs) :Nat->(Sl Bs)->Nat->Option (Sl Bs)
 | 0,_,_=>none
 | n6+1,s3_7,s9_8=>bif (decide (((s9_8:Nat):Int)<((a1.FInputs.l.length:Nat):Int))) then((a1.FInputs.l[s9_8]?).bind fun x16=>(Z45 a0 x16.FType.FName).bind fun x18=>(Z54 x16.FType).bind fun x20=>guardO ((x20&&(((x16.FType.FName==a2))||(x18.2&&(decide (x18.1.FKind=(5:Int))))))) (Z57 s3_7 x16.FType.FName) false fun x21=>bif ((x20&&(((x16.FType.FName==a2))||(x18.2&&(decide (x18.1.FKind=(5:Int))))))&&(!x21)) then((appC 16 s3_7 (⟨false,[x16.FType.FName]⟩:Sl Bs)).bind fun x23=>Z62_j13 s9_8 ((Z62_l6 a0 a1 a2 n6)) x23) else(Z62_j13 s9_8 ((Z62_l6 a0 a1 a2 n6)) s3_7)) else(Z62_j2   s3_7)
def Z62 (a0:TDoc) (a1:TDef) (a2:Bs) (a3:(Sl Bs)):Option (Sl Bs):=Z62_l6 a0 a1 a2 (a1.FInputs.l.length+1) a3 0
theorem Z62_walk {a0:TDoc}{a1:TDef}{a2:Bs}{a3:Sl Bs}{g3:Nat}{r:Sl Bs}(hE:Z62 a0 a1 a2 a3=some r) (H:Heap) (hg3:H g3=some (.tok 1 a3.l.length)):ACalls Tryz.prog 105 [.agg (TDoc.c a0),.agg (TDef.c a1),.d (.str a2),.d (Sl.d 1 strE (some g3) a3)] H fun v h'=>v=.a (.d (Sl.d 1 strE (some g3) r))/\h'=(H.set g3 (some (.tok 1 r.l.length))):=by
 unfold Z62 at hE;refine ACalls.oW 62 [.tmp 8] Tryz.call105 Tryz.func105 ?_;refine AWp.heqA (h':=(H.set g3 (some (.tok 1 a3.l.length)))) (by funext n_; simp only [Heap.set]; (repeat' split)<;>simp_all) ?_;refine seqR ?_;refine S BX (S BX (S As ?_));refine nil ?_;refine seqJH KeepsT.nil (fun(z:(Sl Bs))=>[(3,.a (.d (Sl.d 1 strE (some g3) z)))]) (fun z=>(H.set g3 (some (.tok 1 z.l.length)))) (fun z=>Z62_j2 z=some r) ?_ ?_
 ·intro K2 hK2;refine seqR ?_;refine S As ?_;refine nil ?_;refine block ?_;refine loopH (TA 2 (TA 4 (TA 5 KeepsT.nil))) (fun(z:Nat×(Sl Bs)×Nat)=>[(3,.a (.d (Sl.d 1 strE (some g3) z.2.1))),(9,.a (.d (.int .i64 ((z.2.2:Nat):Int))))]) (fun z=>(H.set g3 (some (.tok 1 z.2.1.l.length)))) (fun z=>z.1) (fun z=>Z62_l6 a0 a1 a2 z.1 z.2.1 z.2.2=some r) ((a1.FInputs.l.length+1),a3,0) hE Weak.toA ?_;rintro ⟨n6,s3_7,s9_8⟩ hE K6 hK6
  try dsimp only at hE
  cases n6 with
  | zero=>cases hE
  | succ n6 =>
    rw [Z62_l6] at hE;refine seqK fun K9 hK9=>?_;refine seqR ?_;refine S Mv (S Fv (S Ld ?_));refine sLen (f:=TInput.c) (s:=a1.FInputs) (TK rfl) rfl rfl rfl rfl fun hL11=>?_;refine S BI ?_;refine nil ?_;refine cE hE (fun hc12 hE=>?_) (fun hc12 hE=>?_)
    ·try dsimp only at hc12
     have hf12:=of_decide_eq_true hc12;refine sk hK9 ?_;clear hK9 K9;refine seqJH (TA 2 (TA 4 (TA 5 (TA 9 KeepsT.nil)))) (fun(z:(Sl Bs))=>[(3,.a (.d (Sl.d 1 strE (some g3) z)))]) (fun z=>(H.set g3 (some (.tok 1 z.l.length)))) (fun z=>Z62_j13 s9_8 ((Z62_l6 a0 a1 a2 n6)) z=some r) ?_ ?_
     ·intro K13 hK13;refine block ?_;refine seqR ?_;refine S Fv (S Ld (S Mv ?_));obtain⟨x16,gx16,hE⟩:=bO hE;refine s0 (idxMn (f:=TInput.c) (n:=s9_8) (TK rfl) rfl (TK rfl) rfl rfl rfl gx16) rfl ?_;refine S Fv (S Ld ?_);refine Sl ?_;refine Sf ?_;refine nil ?_;refine freezeA 10 _ rfl (KA 2 (KA 3 (KA 4 (KA 5 (KA 9 Keeps.nil))))) ?_;refine seqR ?_;refine S Ld (S Fv (S Ld ?_));obtain⟨x18,gx18,hE⟩:=bO hE
      refine Sc rfl rfl (Z45_walk gx18) ?_;refine S Mv (S EX (S EX ?_));refine Sl ?_;refine Sf ?_;refine S As ?_;refine nil ?_;refine freezeA 11 _ rfl (KA 2 (KA 3 (KA 4 (KA 5 (KA 9 (KA 10 (KA 12 Keeps.nil))))))) ?_;refine seqR ?_;refine S Ld ?_;obtain⟨x20,gx20,hE⟩:=bO hE;refine Sc rfl rfl (Z54_walk gx20) ?_;refine S Mv (g0 Fv ?_);refine g1 36 rfl Ld ?_;refine g0 Mv ?_;refine g2 37 38 rfl rfl BS ?_
      refine g1 39 rfl Mv ?_;refine g0 Mv ?_;refine g1 41 rfl Mv ?_;refine g0 Fv ?_;refine g1 43 rfl Ld ?_;refine g1 44 rfl BI ?_;refine gC rfl rfl (fun hC=>ungdA (k:=42) rfl (pickAndA rfl rfl rfl)) rfl ?_;refine gC rfl rfl (fun hC=>ungdA (k:=40) rfl (pickOrA rfl rfl rfl)) rfl ?_;refine S PA (S Mv (g0 Mv (g0 Fv ?_)));refine g1 51 rfl Ld ?_;obtain⟨x21,gx21,hE⟩:=gO hE;refine gc2 50 52 rfl rfl rfl rfl rfl rfl (fun hC=>Z57_walk (gx21 hC)) ?_
      refine g1 53 rfl NB ?_;refine S PA ?_;refine nil ?_;refine cE hE (fun hc22 hE=>?_) (fun hc22 hE=>?_)
      ·refine region ?_;refine S Mv (S Fv (S Ld (S BV ?_)));obtain⟨x23,gx23,hE⟩:=bO hE;refine sH (appM (f:=strE) (TK rfl) rfl (TK rfl) (TK rfl) ⟨_,rfl⟩ rfl rfl (by decide) rfl rfl rfl rfl hpG rfl gx23) rfl ?_;refine hq (H.set g3 (some (.tok 1 x23.l.length))) ?_;refine S As ?_;refine nil ?_;exact hK13 _ x23 Weak.toA hE
      refine AWp.skip ?_;exact hK13 _ s3_7 Weak.toA hE
     rintro s3_14 hE;try dsimp only at hE
     unfold Z62_j13 at hE;refine region ?_;refine S Mv ?_;refine SI ?_;refine S As ?_;refine nil ?_;exact hK6 _ (n6,s3_14,(s9_8+1)) Weak.toA hE (Nat.lt_succ_self _)
    refine AWp.exit ?_;exact hK2 _ s3_7 Weak.toA hE
 rintro s3_3 hE;try dsimp only at hE
 unfold Z62_j2 at hE;refine seqR ?_;refine S Mv (S As ?_);refine nil ?_;exact rt hE
end Go.Proofs

namespace Go.Proofs
open Go Go.Ab
open AOps Cert AWp Keeps KeepsT
variable {lou:Lou}
def Z53_j8 (a1:TDef)  (s5_9:(Sl Bs)):Option Bool:=(Z57 s5_9 a1.FName).bind fun x11=>some x11
def Z53_l13 (a0:TDoc) (a1:TDef) :Nat->(Sl Bs)->Nat->Option Bool
 | 0,_,_=>none
 | n13+1,s5_14,s6_15=>bif (decide (((s6_15:Nat):Int)<((s5_14.l.length:Nat):Int))) then((s5_14.l[s6_15]?).bind fun x22=>(Z45 a0 x22).bind fun x23=>(Z62 a0 x23.1 a1.FName s5_14).bind fun x24=>(Z53_l13 a0 a1 n13) x24 (s6_15+1)) else(Z53_j8 a1  s5_14)
def Z53 (a0:TDoc) (a1:TDef):Option Bool:=bif (!decide (a1.FKind=(5:Int))) then(some false) else((Z62 a0 a1 a1.FName (Sl.nil:Sl Bs)).bind fun x7=>Z53_l13 a0 a1 F0 x7 0)
theorem Z53_walk {a0:TDoc}{a1:TDef}{r:Bool}(hE:Z53 a0 a1=some r) (H:Heap) :ACalls Tryz.prog 70 [.agg (TDoc.c a0),.agg (TDef.c a1)] H fun v h'=>v=.a (.d (.bool r))/\h'=H:=by
 unfold Z53 at hE;refine ACalls.oW 42 [.tmp 4] Tryz.call70 Tryz.func70 ?_;refine AWp.tok 1 fun tk1 htk1=>?_;refine seqR ?_;refine S BX (S BX (S As ?_));refine nil ?_;refine seqK fun K2 hK2=>?_;refine seqR ?_;refine S Fv (S Ld (S BI ?_));refine nil ?_;refine cE hE (fun hc4 hE=>?_) (fun hc4 hE=>?_)
 ·refine seqR ?_;refine S As ?_;refine nil ?_;refine AWp.ret ?_;repeat (first|refine xBlock_ret ?_|refine xThen_ret ?_)
  obtain rfl:=Option.some.inj hE;refine retQ.retF H rfl ⟨rfl,rfl⟩ ?_
  first|exact Heap.sub_set htk1|(simp only [Heap.set_set]; exact Heap.sub_set htk1)
 refine sk hK2 ?_;clear hK2 K2;refine seqR ?_;refine S Ld (S Ld (S Fv (S Ld ?_)));obtain⟨x7,gx7,hE⟩:=bO hE;refine sH (callH rfl rfl (ACalls.asArgs (.cons (.refl _) (.cons (.refl _) (.cons (.refl _) (.cons (AsArg.nil (k':=1) (t:=tk1) hpG) .nil)))) (Z62_walk gx7 _ hpG))) rfl ?_;refine hq (H.set tk1 (some (.tok 1 x7.l.length))) ?_;refine S As ?_;refine nil ?_;refine seqJH (TA 3 KeepsT.nil) (fun(z:(Sl Bs))=>[(5,.a (.d (Sl.d 1 strE (some tk1) z)))]) (fun z=>(H.set tk1 (some (.tok 1 z.l.length)))) (fun z=>Z53_j8 a1 z=some r) ?_ ?_
 ·intro K8 hK8;refine seqR ?_;refine S As ?_;refine nil ?_;refine block ?_;refine loopH (TA 2 (TA 3 KeepsT.nil)) (fun(z:Nat×(Sl Bs)×Nat)=>[(5,.a (.d (Sl.d 1 strE (some tk1) z.2.1))),(6,.a (.d (.int .i64 ((z.2.2:Nat):Int))))]) (fun z=>(H.set tk1 (some (.tok 1 z.2.1.l.length)))) (fun z=>z.1) (fun z=>Z53_l13 a0 a1 z.1 z.2.1 z.2.2=some r) (F0,x7,0) hE Weak.toA ?_;rintro ⟨n13,s5_14,s6_15⟩ hE K13 hK13;try dsimp only at hE
  cases n13 with
  | zero=>cases hE
  | succ n13 =>
    rw [Z53_l13] at hE;refine seqK fun K16 hK16=>?_;refine seqR ?_;refine S Mv (S Mv ?_);refine sLen (f:=strE) (s:=s5_14) (TK rfl) rfl rfl rfl rfl fun hL18=>?_;refine S BI ?_;refine nil ?_;refine cE hE (fun hc19 hE=>?_) (fun hc19 hE=>?_)
    ·try dsimp only at hc19
     have hf19:=of_decide_eq_true hc19;refine sk hK16 ?_;clear hK16 K16;refine seqK fun K20 hK20=>?_;refine block ?_;refine AWp.seqD ?_;refine Sd Ld (Sd Mv (Sd Mv ?_));obtain⟨x22,gx22,hE⟩:=bO hE;refine DOps.s0 (idxMn (f:=strE) (n:=s6_15) (TK rfl) rfl (TK rfl) rfl rfl rfl gx22) rfl ?_;refine Sd Ld ?_;obtain⟨x23,gx23,hE⟩:=bO hE;refine DOps.s0 (callP rfl rfl (fun H=>Z45_walk gx23 H)) rfl ?_;refine Sd Mv (Sd EX (Sd EX ?_))
     refine DOps.sB (TK rfl) rfl rfl ?_ (by repeat (first|exact Snoc.nil|apply Snoc.cons));refine DOps.sLn (storeLFA (TK rfl) rfl rfl rfl rfl rfl) ?_;refine Sd As ?_;refine DOps.nil (by decide +kernel) ?_;refine freezeA 7 _ rfl (KA 2 (KA 3 (KA 5 (KA 6 Keeps.nil)))) ?_;refine region ?_;refine S Ld (S Ld (S Fv (S Ld (S Mv ?_))));obtain⟨x24,gx24,hE⟩:=bO hE;refine sH (callH rfl rfl (Z62_walk gx24 _ hpG)) rfl ?_
     refine hq (H.set tk1 (some (.tok 1 x24.l.length))) ?_;refine S As ?_;refine nil ?_;refine hK20 _ ?_;clear hK20 K20;refine region ?_;refine S Mv ?_;refine SI ?_;refine S As ?_;refine nil ?_;exact hK13 _ (n13,x24,(s6_15+1)) Weak.toA hE (Nat.lt_succ_self _)
    refine AWp.exit ?_;exact hK8 _ s5_14 Weak.toA hE
 rintro s5_9 hE;try dsimp only at hE
 unfold Z53_j8 at hE;refine seqR ?_;refine S Mv (S Fv (S Ld ?_));obtain⟨x11,gx11,hE⟩:=bO hE;refine Sc rfl rfl (Z57_walk gx11) ?_;refine S As ?_;refine nil ?_;refine AWp.ret ?_;repeat (first|refine xBlock_ret ?_|refine xThen_ret ?_)
 obtain rfl:=Option.some.inj hE;refine retQ.retF H rfl ⟨rfl,rfl⟩ ?_
 first|exact Heap.sub_set htk1|(simp only [Heap.set_set]; exact Heap.sub_set htk1)
def Z63_j15  (s8_16:(Sl TFault)):Option (Sl TFault):=some s8_16
def Z63_j13 (a0:TDoc) (x3:TDef)  (s8_14:(Sl TFault)):Option (Sl TFault):=(Z53 a0 x3).bind fun x19=>bif x19 then((appC 24 s8_14 (⟨false,[(TFault.mk (5:Int) x3.FName)]⟩:Sl TFault)).bind fun x21=>Z63_j15   x21) else(Z63_j15   s8_14)
def Z63_j10 (a0:TDoc) (x3:TDef)  (s8_11:(Sl TFault)):Option (Sl TFault):=bif (((((((x3.FName==([81,117,101,114,121]:Bs)))||((x3.FName==([77,117,116,97,116,105,111,110]:Bs))))||((x3.FName==([83,117,98,115,99,114,105,112,116,105,111,110]:Bs))))&&(!decide (x3.FKind=(1:Int))))||(decide (x3.FKind<(1:Int))))||(decide ((5:Int)<x3.FKind))) then((appC 24 s8_11 (⟨false,[(TFault.mk (9:Int) x3.FName)]⟩:Sl TFault)).bind fun x24=>Z63_j13 a0 x3  x24) else(Z63_j13 a0 x3  s8_11)
def Z63_j6 (a0:TDoc) (x3:TDef)  (s6_7:Bool):Option (Sl TFault):=(Z61 x3.FName false s6_7 x3.FName).bind fun x9=>(Z55 x3).bind fun x26=>bif x26 then((appC 24 x9 (⟨false,[(TFault.mk (8:Int) x3.FName)]⟩:Sl TFault)).bind fun x28=>Z63_j10 a0 x3  x28) else(Z63_j10 a0 x3  x9)
def Z63_l30 (a0:TDoc) (a1:Int) (x3:TDef) :Nat->Bool->Int->Option (Sl TFault)
 | 0,_,_=>none
 | n30+1,s6_31,s7_32=>bif (decide (s7_32<a1)) then(guardO (!s6_31) (idxC a0.FDefs.l s7_32) TDef.zero fun x37=>(addC s7_32 (1:Int)).bind fun x38=>(Z63_l30 a0 a1 x3 n30) (s6_31||((x37.FName==x3.FName))) x38) else(Z63_j6 a0 x3  s6_31)
def Z63 (a0:TDoc) (a1:Int):Option (Sl TFault):=(idxC a0.FDefs.l a1).bind fun x3=>(Z51 x3.FName).bind fun x5=>Z63_l30 a0 a1 x3 F0 x5 (0:Int)
theorem Z63_walk {a0:TDoc}{a1:Int}{r:Sl TFault}(hE:Z63 a0 a1=some r) (H:Heap) :ACalls Tryz.prog 32 [.agg (TDoc.c a0),.d (.int .i64 a1)] H fun v h'=>v=.a (.d (Sl.d 2 TFault.c none r))/\h'=H:=by
 unfold Z63 at hE;refine ACalls.oW 94 [.tmp 4] Tryz.call32 Tryz.func32 ?_;refine seqR ?_;refine S BX ?_;refine s0 (assignNil (k':=2) rfl) rfl ?_;refine nil ?_;refine seqR ?_;refine S Fv (S Ld (S Mv ?_));obtain⟨x3,gx3,hE⟩:=bO hE;refine s0 (idxM (f:=TDef.c) (TK rfl) rfl (TK rfl) rfl rfl rfl gx3) rfl ?_;refine S Ld ?_;refine Sl ?_;refine Sf ?_;refine nil ?_;refine freezeA 5 _ rfl (KA 1 (KA 2 Keeps.nil)) ?_
 refine seqR ?_;refine S Fv (S Ld ?_);obtain⟨x5,gx5,hE⟩:=bO hE;refine Sc rfl rfl (Z51_walk gx5) ?_;refine S As ?_;refine nil ?_;refine seqJH (TA 2 (TA 5 KeepsT.nil)) (fun(z:Bool)=>[(6,.a (.d (.bool z)))]) (fun z=>H) (fun z=>Z63_j6 a0 x3 z=some r) ?_ ?_
 ·intro K6 hK6;refine seqR ?_;refine S As ?_;refine nil ?_;refine block ?_;refine loopH (TA 1 (TA 2 (TA 5 KeepsT.nil))) (fun(z:Nat×Bool×Int)=>[(6,.a (.d (.bool z.2.1))),(7,.a (.d (.int .i64 z.2.2)))]) (fun z=>H) (fun z=>z.1) (fun z=>Z63_l30 a0 a1 x3 z.1 z.2.1 z.2.2=some r) (F0,x5,(0:Int)) hE Weak.toA ?_;rintro ⟨n30,s6_31,s7_32⟩ hE K30 hK30;try dsimp only at hE
  cases n30 with
  | zero=>cases hE
  | succ n30 =>
    rw [Z63_l30] at hE;refine seqK fun K33 hK33=>?_;refine seqR ?_;refine S Mv (S Mv (S BI ?_));refine nil ?_;refine cE hE (fun hc35 hE=>?_) (fun hc35 hE=>?_)
    ·refine sk hK33 ?_;clear hK33 K33;refine seqK fun K36 hK36=>?_;refine block ?_;refine AWp.draw rfl ?_;refine Sd Mv (Sd Mv (g0d Fv ?_));refine g1d 25 rfl Ld ?_;refine g0d Mv ?_;obtain⟨x37,gx37,hE⟩:=gO hE;refine DOps.gC rfl rfl (fun hC=>ungdA (k:=26) rfl (ungdA (k:=27) rfl (idxM (f:=TDef.c) (TK rfl) rfl (TK rfl) rfl rfl rfl (gx37 hC)))) rfl ?_;refine g1d 28 rfl Fv ?_;refine g1d 29 rfl Ld ?_;refine g0d Fv ?_
     refine g1d 31 rfl Ld ?_;refine g2d 30 32 rfl rfl BS ?_;refine Sd PO (Sd As ?_);refine DOps.nil (by decide +kernel) ?_;refine hK36 _ ?_;clear hK36 K36;refine region ?_;refine S Mv ?_;obtain⟨x38,gx38,hE⟩:=bO hE;refine s0 (addM rfl rfl gx38) rfl ?_;refine S As ?_;refine nil ?_;exact hK30 _ (n30,(s6_31||((x37.FName==x3.FName))),x38) Weak.toA hE (Nat.lt_succ_self _)
    refine AWp.exit ?_;exact hK6 _ s6_31 Weak.toA hE
 rintro s6_7 hE;try dsimp only at hE
 unfold Z63_j6 at hE;refine AWp.tok 2 fun tk1 htk1=>?_;refine seqR ?_;refine S Fv (S Ld (S Mv (S Fv (S Ld ?_))));obtain⟨x9,gx9,hE⟩:=bO hE;refine sH (callH rfl rfl (Z61_tok gx9 _ hpG)) rfl ?_;refine hq (H.set tk1 (some (.tok 2 x9.l.length))) ?_;refine S As ?_;refine nil ?_;refine seqJH (TA 2 (TA 5 KeepsT.nil)) (fun(z:(Sl TFault))=>[(8,.a (.d (Sl.d 2 TFault.c (some tk1) z)))]) (fun z=>(H.set tk1 (some (.tok 2 z.l.length)))) (fun z=>Z63_j10 a0 x3 z=some r) ?_ ?_
 ·intro K10 hK10;refine seqR ?_;refine S Ld ?_;obtain⟨x26,gx26,hE⟩:=bO hE;refine Sc rfl rfl (Z55_walk gx26) ?_;refine nil ?_;refine cE hE (fun hc27 hE=>?_) (fun hc27 hE=>?_)
  ·refine region ?_;refine S Mv (S Fv (S Ld (S BU (S BV ?_))));obtain⟨x28,gx28,hE⟩:=bO hE;refine sH (appM (f:=TFault.c) (TK rfl) rfl (TK rfl) (TK rfl) ⟨_,rfl⟩ rfl rfl (by decide) rfl rfl rfl rfl hpG rfl gx28) rfl ?_;refine hq (H.set tk1 (some (.tok 2 x28.l.length))) ?_;refine S As ?_;refine nil ?_;exact hK10 _ x28 Weak.toA hE
  refine AWp.skip ?_;exact hK10 _ x9 Weak.toA hE
 rintro s8_11 hE;try dsimp only at hE
 unfold Z63_j10 at hE;refine seqR ?_;refine S Fv (S Ld (S BS (S Mv (g0 Fv ?_))));refine g1 53 rfl Ld ?_;refine g1 54 rfl BS ?_;refine S PO (S Mv (g0 Fv ?_));refine g1 58 rfl Ld ?_;refine g1 59 rfl BS ?_;refine S PO (S As ?_);refine nil ?_;refine seqJH (TA 2 (TA 5 KeepsT.nil)) (fun(z:(Sl TFault))=>[(8,.a (.d (Sl.d 2 TFault.c (some tk1) z)))]) (fun z=>(H.set tk1 (some (.tok 2 z.l.length)))) (fun z=>Z63_j13 a0 x3 z=some r) ?_ ?_
 ·intro K13 hK13;refine seqR ?_;refine S Mv (S Mv (g0 Fv ?_));refine g1 64 rfl Ld ?_;refine g1 65 rfl BI ?_;refine S PA (S Mv (g0 Fv ?_));refine g1 69 rfl Ld ?_;refine g1 70 rfl BI ?_;refine S PO (S Mv (g0 Fv ?_));refine g1 74 rfl Ld ?_;refine g1 75 rfl BI ?_;refine S PO ?_;refine nil ?_;refine cE hE (fun hc23 hE=>?_) (fun hc23 hE=>?_)
  ·refine region ?_;refine S Mv (S Fv (S Ld (S BU (S BV ?_))));obtain⟨x24,gx24,hE⟩:=bO hE;refine sH (appM (f:=TFault.c) (TK rfl) rfl (TK rfl) (TK rfl) ⟨_,rfl⟩ rfl rfl (by decide) rfl rfl rfl rfl hpG rfl gx24) rfl ?_;refine hq (H.set tk1 (some (.tok 2 x24.l.length))) ?_;refine S As ?_;refine nil ?_;exact hK13 _ x24 Weak.toA hE
  refine AWp.skip ?_;exact hK13 _ s8_11 Weak.toA hE
 rintro s8_14 hE;try dsimp only at hE
 unfold Z63_j13 at hE;refine seqJH KeepsT.nil (fun(z:(Sl TFault))=>[(8,.a (.d (Sl.d 2 TFault.c (some tk1) z)))]) (fun z=>(H.set tk1 (some (.tok 2 z.l.length)))) (fun z=>Z63_j15 z=some r) ?_ ?_
 ·intro K15 hK15;refine seqR ?_;refine S Ld (S Ld ?_);obtain⟨x19,gx19,hE⟩:=bO hE;refine Sc rfl rfl (Z53_walk gx19) ?_;refine nil ?_;refine cE hE (fun hc20 hE=>?_) (fun hc20 hE=>?_)
  ·refine region ?_;refine S Mv (S Fv (S Ld (S BU (S BV ?_))));obtain⟨x21,gx21,hE⟩:=bO hE;refine sH (appM (f:=TFault.c) (TK rfl) rfl (TK rfl) (TK rfl) ⟨_,rfl⟩ rfl rfl (by decide) rfl rfl rfl rfl hpG rfl gx21) rfl ?_;refine hq (H.set tk1 (some (.tok 2 x21.l.length))) ?_;refine S As ?_;refine nil ?_;exact hK15 _ x21 Weak.toA hE
  refine AWp.skip ?_;exact hK15 _ s8_14 Weak.toA hE
 rintro s8_16 hE;try dsimp only at hE
 unfold Z63_j15 at hE;refine seqR ?_;refine S Mv (S As ?_);refine nil ?_;refine AWp.dropTok 4 rfl ?_;refine AWp.ret ?_;repeat (first|refine xBlock_ret ?_|refine xThen_ret ?_)
 obtain rfl:=Option.some.inj hE;refine retQ.retF H rfl ⟨rfl,rfl⟩ ?_
 first|exact Heap.sub_set htk1|(simp only [Heap.set_set]; exact Heap.sub_set htk1)
def Z59 (a0:TDoc) (a1:Bs):Option Bool:=(Z45 a0 a1).bind fun x3=>(Z51 a1).bind fun x5=>some (x5||x3.2)
theorem Z59_walk {a0:TDoc}{a1:Bs}{r:Bool}(hE:Z59 a0 a1=some r) (H:Heap) :ACalls Tryz.prog 72 [.agg (TDoc.c a0),.d (.str a1)] H fun v h'=>v=.a (.d (.bool r))/\h'=H:=by
 unfold Z59 at hE;refine ACalls.oW 18 [.tmp 4] Tryz.call72 Tryz.func72 ?_;refine seqR ?_;refine S BX (S As ?_);refine nil ?_;refine seqR ?_;refine S Ld (S Mv ?_);obtain⟨x3,gx3,hE⟩:=bO hE;refine Sc rfl rfl (Z45_walk gx3) ?_;refine S Mv (S EX (S EX ?_));refine Sl ?_;refine Sf ?_;refine S As ?_;refine nil ?_;refine freezeA 5 _ rfl (KA 1 (KA 6 Keeps.nil)) ?_;refine seqR ?_;refine S Mv ?_;obtain⟨x5,gx5,hE⟩:=bO hE
 refine Sc rfl rfl (Z51_walk gx5) ?_;refine S Mv (g0 Mv (S PO (S As ?_)));refine nil ?_;exact rt hE
def Z46_j2  (y3_l0:TInput):Option (TInput×Bool):=some ((TInput.mk ([]:Bs) TRef.zero false TValue.zero (Sl.nil:Sl TDir)),false)
def Z46_l6 (a0:(Sl TInput)) (a1:Bs) :Nat->Nat->TInput->Option (TInput×Bool)
 | 0,_,_=>none
 | n6+1,s6_7,y8_l0=>bif (decide (((s6_7:Nat):Int)<((a0.l.length:Nat):Int))) then((a0.l[s6_7]?).bind fun x15=>bif ((x15.FName==a1)) then((a0.l[s6_7]?).bind fun x18=>some (x18,true)) else((Z46_l6 a0 a1 n6) (s6_7+1) y8_l0)) else(Z46_j2   y8_l0)
def Z46 (a0:(Sl TInput)) (a1:Bs):Option (TInput×Bool):=Z46_l6 a0 a1 (a0.l.length+1) 0 TInput.zero
theorem Z46_walk {a0:Sl TInput}{a1:Bs}{w0:Option Nat}{r:TInput×Bool}(hE:Z46 a0 a1=some r) (H:Heap) :ACalls Tryz.prog 73 [.d (Sl.d 10 TInput.c w0 a0),.d (.str a1)] H fun v h'=>v=.tup [.agg (TInput.c r.1),.d (.bool r.2)]/\h'=H:=by
 unfold Z46 at hE;refine ACalls.oW 25 [.cell 4 75,.tmp 5] Tryz.call73 Tryz.func73 ?_;refine seqR ?_;refine Sl ?_;refine S As ?_;refine nil ?_;refine seqJ (TA 4 KeepsT.nil) (fun(z:TInput)=>[]) (fun z=>[TInput.c z]) (fun z=>H) (fun z=>Z46_j2 z=some r) ?_ ?_
 ·intro K2 hK2;refine seqR ?_;refine S As ?_;refine nil ?_;refine block ?_;refine loopO (TA 0 (TA 1 (TA 4 KeepsT.nil))) (fun(z:Nat×Nat×TInput)=>[(6,.a (.d (.int .i64 ((z.2.1:Nat):Int))))]) (fun z=>[TInput.c z.2.2]) (fun z=>H) (fun z=>z.1) (fun z=>Z46_l6 a0 a1 z.1 z.2.1 z.2.2=some r) ((a0.l.length+1),0,TInput.zero) hE Weak.toA ?_;rintro ⟨n6,s6_7,y8_l0⟩ hE K6 hK6;try dsimp only at hE
  cases n6 with
  | zero=>cases hE
  | succ n6 =>
    rw [Z46_l6] at hE;refine seqK fun K9 hK9=>?_;refine seqR ?_;refine S Mv (S Mv ?_);refine sLen (f:=TInput.c) (s:=a0) (TK rfl) rfl rfl rfl rfl fun hL11=>?_;refine S BI ?_;refine nil ?_;refine cE hE (fun hc12 hE=>?_) (fun hc12 hE=>?_)
    ·try dsimp only at hc12
     have hf12:=of_decide_eq_true hc12;refine sk hK9 ?_;clear hK9 K9;refine seqK fun K13 hK13=>?_;refine block ?_;refine seqR ?_;refine S Mv (S Mv ?_);obtain⟨x15,gx15,hE⟩:=bO hE;refine s0 (idxMn (f:=TInput.c) (n:=s6_7) (TK rfl) rfl (TK rfl) rfl rfl rfl gx15) rfl ?_;refine S Fv (S Ld (S Mv (S BS ?_)));refine nil ?_;refine cE hE (fun hc16 hE=>?_) (fun hc16 hE=>?_)
     ·refine seqR ?_;refine S Mv (S Mv ?_);obtain⟨x18,gx18,hE⟩:=bO hE;refine s0 (idxMn (f:=TInput.c) (n:=s6_7) (TK rfl) rfl (TK rfl) rfl rfl rfl gx18) rfl ?_;refine S Ld ?_;refine Sf ?_;refine S As ?_;refine nil ?_;exact rt hE
     refine sk hK13 ?_;clear hK13 K13;refine region ?_;refine S Mv ?_;refine SI ?_;refine S As ?_;refine nil ?_;exact hK6 _ (n6,(s6_7+1),y8_l0) Weak.toA hE (Nat.lt_succ_self _)
    refine AWp.exit ?_;exact hK2 _ y8_l0 Weak.toA hE
 rintro y3_l0 hE;try dsimp only at hE
 unfold Z46_j2 at hE;refine seqR ?_;refine S BU ?_;refine Sf ?_;refine S As ?_;refine nil ?_;exact rt hE
def Z49 (a0:TDoc) (a1:Bs):Option Bool:=(Z45 a0 a1).bind fun x3=>(Z51 a1).bind fun x5=>some (x5||(x3.2&&(decide (x3.1.FKind=(4:Int)))))
theorem Z49_walk {a0:TDoc}{a1:Bs}{r:Bool}(hE:Z49 a0 a1=some r) (H:Heap) :ACalls Tryz.prog 107 [.agg (TDoc.c a0),.d (.str a1)] H fun v h'=>v=.a (.d (.bool r))/\h'=H:=by
 unfold Z49 at hE;refine ACalls.oW 23 [.tmp 4] Tryz.call107 Tryz.func107 ?_;refine seqR ?_;refine S BX (S As ?_);refine nil ?_;refine seqR ?_;refine S Ld (S Mv ?_);obtain⟨x3,gx3,hE⟩:=bO hE;refine Sc rfl rfl (Z45_walk gx3) ?_;refine S Mv (S EX (S EX ?_));refine Sl ?_;refine Sf ?_;refine S As ?_;refine nil ?_;refine freezeA 5 _ rfl (KA 1 (KA 6 Keeps.nil)) ?_;refine seqR ?_;refine S Mv ?_;obtain⟨x5,gx5,hE⟩:=bO hE
 refine Sc rfl rfl (Z51_walk gx5) ?_;refine S Mv (g0 Mv ?_);refine g1 16 rfl Mv ?_;refine g0 Fv ?_;refine g1 18 rfl Ld ?_;refine g1 19 rfl BI ?_;refine gC rfl rfl (fun hC=>ungdA (k:=17) rfl (pickAndA rfl rfl rfl)) rfl ?_;refine S PO (S As ?_);refine nil ?_;exact rt hE
def Z47 (a0:TDoc) (a1:Bs):Option Bool:=(Z45 a0 a1).bind fun x3=>(Z49 a0 a1).bind fun x5=>some (x5||(x3.2&&(decide (x3.1.FKind=(5:Int)))))
theorem Z47_walk {a0:TDoc}{a1:Bs}{r:Bool}(hE:Z47 a0 a1=some r) (H:Heap) :ACalls Tryz.prog 74 [.agg (TDoc.c a0),.d (.str a1)] H fun v h'=>v=.a (.d (.bool r))/\h'=H:=by
 unfold Z47 at hE;refine ACalls.oW 24 [.tmp 4] Tryz.call74 Tryz.func74 ?_;refine seqR ?_;refine S BX (S As ?_);refine nil ?_;refine seqR ?_;refine S Ld (S Mv ?_);obtain⟨x3,gx3,hE⟩:=bO hE;refine Sc rfl rfl (Z45_walk gx3) ?_;refine S Mv (S EX (S EX ?_));refine Sl ?_;refine Sf ?_;refine S As ?_;refine nil ?_;refine freezeA 5 _ rfl (KA 1 (KA 2 (KA 6 Keeps.nil))) ?_;refine seqR ?_;refine S Ld (S Mv ?_)
 obtain⟨x5,gx5,hE⟩:=bO hE;refine Sc rfl rfl (Z49_walk gx5) ?_;refine S Mv (g0 Mv ?_);refine g1 17 rfl Mv ?_;refine g0 Fv ?_;refine g1 19 rfl Ld ?_;refine g1 20 rfl BI ?_;refine gC rfl rfl (fun hC=>ungdA (k:=18) rfl (pickAndA rfl rfl rfl)) rfl ?_;refine S PO (S As ?_);refine nil ?_;exact rt hE
def Z58_j3  (s9_4:(Sl TFault)):Option (Sl TFault):=some s9_4
def Z58_j14 (s10_9:Nat) (k_next_7:(Sl TFault)->Nat->Option (Sl TFault)) (s9_15:(Sl TFault)):Option (Sl TFault):=k_next_7 s9_15 (s10_9+1)
def Z58_l7 (a0:TDoc) (a1:(Sl TInput)) (a2:Bs) (a3:Bs) :Nat->(Sl TFault)->Nat->Option (Sl TFault)
 | 0,_,_=>none
 | n7+1,s9_8,s10_9=>bif (decide (((s10_9:Nat):Int)<((a1.l.length:Nat):Int))) then((a1.l[s10_9]?).bind fun x17=>(catC a2 x17.FName).bind fun x18=>(catC x18 a3).bind fun x19=>(partC a1 none (some ((s10_9:Nat):Int))).bind fun x21=>(a1.l[s10_9]?).bind fun x22=>(Z46 x21 x22.FName).bind fun x23=>(a1.l[s10_9]?).bind fun x25=>(Z61 x25.FName false x23.2 x19).bind fun x26=>(appC 24 s9_8 x26).bind fun x27=>(a1.l[s10_9]?).bind fun x29=>(Z59 a0 x29.FType.FName).bind fun x30=>bif (!x30) then((appC 24 x27 (⟨false,[(TFault.mk (8:Int) x19)]⟩:Sl TFault)).bind fun x32=>Z58_j14 s10_9 ((Z58_l7 a0 a1 a2 a3 n7)) x32) else((a1.l[s10_9]?).bind fun x34=>(Z47 a0 x34.FType.FName).bind fun x35=>bif (!x35) then((appC 24 x27 (⟨false,[(TFault.mk (10:Int) x19)]⟩:Sl TFault)).bind fun x37=>Z58_j14 s10_9 ((Z58_l7 a0 a1 a2 a3 n7)) x37) else(Z58_j14 s10_9 ((Z58_l7 a0 a1 a2 a3 n7)) x27))) else(Z58_j3   s9_8)
def Z58 (a0:TDoc) (a1:(Sl TInput)) (a2:Bs) (a3:Bs):Option (Sl TFault):=Z58_l7 a0 a1 a2 a3 (a1.l.length+1) (Sl.nil:Sl TFault) 0
theorem Z58_walk {a0:TDoc}{a1:Sl TInput}{a2 a3:Bs}{w1:Option Nat}{r:Sl TFault}(hE:Z58 a0 a1 a2 a3=some r) (H:Heap) :ACalls Tryz.prog 35 [.agg (TDoc.c a0),.d (Sl.d 10 TInput.c w1 a1),.d (.str a2),.d (.str a3)] H fun v h'=>v=.a (.d (Sl.d 2 TFault.c none r))/\h'=H:=by
 unfold Z58 at hE;refine ACalls.oW 80 [.tmp 8] Tryz.call35 Tryz.func35 ?_;refine AWp.tok 2 fun tk1 htk1=>?_;refine seqR ?_;refine S BX ?_;refine s0 (assignNil (k':=2) rfl) rfl ?_;refine nil ?_;refine seqR ?_;refine S As ?_;refine nil ?_;refine AWp.nilTok 9 2 tk1 rfl hpG ?_;refine seqJH KeepsT.nil (fun(z:(Sl TFault))=>[(9,.a (.d (Sl.d 2 TFault.c (some tk1) z)))]) (fun z=>(H.set tk1 (some (.tok 2 z.l.length)))) (fun z=>Z58_j3 z=some r) ?_ ?_
 ·intro K3 hK3;refine seqR ?_;refine S As ?_;refine nil ?_;refine block ?_;refine loopH (TA 1 (TA 2 (TA 3 (TA 4 KeepsT.nil)))) (fun(z:Nat×(Sl TFault)×Nat)=>[(9,.a (.d (Sl.d 2 TFault.c (some tk1) z.2.1))),(10,.a (.d (.int .i64 ((z.2.2:Nat):Int))))]) (fun z=>(H.set tk1 (some (.tok 2 z.2.1.l.length)))) (fun z=>z.1) (fun z=>Z58_l7 a0 a1 a2 a3 z.1 z.2.1 z.2.2=some r) ((a1.l.length+1),(Sl.nil:Sl TFault),0) hE Weak.toA ?_
  rintro ⟨n7,s9_8,s10_9⟩ hE K7 hK7;try dsimp only at hE
  cases n7 with
  | zero=>cases hE
  | succ n7 =>
    rw [Z58_l7] at hE;refine seqK fun K10 hK10=>?_;refine seqR ?_;refine S Mv (S Mv ?_);refine sLen (f:=TInput.c) (s:=a1) (TK rfl) rfl rfl rfl rfl fun hL12=>?_;refine S BI ?_;refine nil ?_;refine cE hE (fun hc13 hE=>?_) (fun hc13 hE=>?_)
    ·try dsimp only at hc13
     have hf13:=of_decide_eq_true hc13;refine sk hK10 ?_;clear hK10 K10;refine seqJH (TA 1 (TA 2 (TA 3 (TA 4 (TA 10 KeepsT.nil))))) (fun(z:(Sl TFault))=>[(9,.a (.d (Sl.d 2 TFault.c (some tk1) z)))]) (fun z=>(H.set tk1 (some (.tok 2 z.l.length)))) (fun z=>Z58_j14 s10_9 ((Z58_l7 a0 a1 a2 a3 n7)) z=some r) ?_ ?_
     ·intro K14 hK14;refine block ?_;refine seqR ?_;refine S Mv (S Mv (S Mv ?_));obtain⟨x17,gx17,hE⟩:=bO hE;refine s0 (idxMn (f:=TInput.c) (n:=s10_9) (TK rfl) rfl (TK rfl) rfl rfl rfl gx17) rfl ?_;refine S Fv (S Ld ?_);obtain⟨x18,gx18,hE⟩:=bO hE;refine s0 (catM rfl rfl gx18) rfl ?_;refine S Mv ?_;obtain⟨x19,gx19,hE⟩:=bO hE;refine s0 (catM rfl rfl gx19) rfl ?_;refine S As ?_;refine nil ?_;refine AWp.seqD ?_
      refine Sd Mv (Sd Mv ?_);obtain⟨x21,gx21,hE⟩:=bO hE;refine DOps.s0 (partM (f:=TInput.c) (l:=none) (r:=(some ((s10_9:Nat):Int))) (TK rfl) rfl (TK rfl) rfl rfl trivial rfl gx21) rfl ?_;refine Sd Mv (Sd Mv ?_);obtain⟨x22,gx22,hE⟩:=bO hE;refine DOps.s0 (idxMn (f:=TInput.c) (n:=s10_9) (TK rfl) rfl (TK rfl) rfl rfl rfl gx22) rfl ?_;refine Sd Fv (Sd Ld ?_);obtain⟨x23,gx23,hE⟩:=bO hE;refine DOps.s0 (callP rfl rfl (fun H=>Z46_walk gx23 H)) rfl ?_
      refine Sd Mv (Sd EX (Sd EX ?_));refine DOps.sB (TK rfl) rfl rfl ?_ (by repeat (first|exact Snoc.nil|apply Snoc.cons));refine DOps.sLn (storeLFA (TK rfl) rfl rfl rfl rfl rfl) ?_;refine Sd As ?_;refine DOps.nil (by decide +kernel) ?_;refine freezeA 12 _ rfl (KA 1 (KA 2 (KA 3 (KA 4 (KA 9 (KA 10 (KA 11 (KA 13 Keeps.nil)))))))) ?_;refine seqR ?_;refine S Mv (S Mv (S Mv ?_));obtain⟨x25,gx25,hE⟩:=bO hE
      refine s0 (idxMn (f:=TInput.c) (n:=s10_9) (TK rfl) rfl (TK rfl) rfl rfl rfl gx25) rfl ?_;refine S Fv (S Ld (S Mv (S Mv ?_)));obtain⟨x26,gx26,hE⟩:=bO hE;refine Sc rfl rfl (Z61_walk gx26) ?_;obtain⟨x27,gx27,hE⟩:=bO hE;refine sH (appM (f:=TFault.c) (TK rfl) rfl (TK rfl) (TK rfl) ⟨_,rfl⟩ rfl rfl (by decide) rfl rfl rfl rfl hpG rfl gx27) rfl ?_;refine hq (H.set tk1 (some (.tok 2 x27.l.length))) ?_
      refine S As ?_;refine nil ?_;refine AWp.seqD ?_;refine Sd Ld (Sd Mv (Sd Mv ?_));obtain⟨x29,gx29,hE⟩:=bO hE;refine DOps.s0 (idxMn (f:=TInput.c) (n:=s10_9) (TK rfl) rfl (TK rfl) rfl rfl rfl gx29) rfl ?_;refine Sd Fv (Sd Fv (Sd Ld ?_));obtain⟨x30,gx30,hE⟩:=bO hE;refine DOps.s0 (callP rfl rfl (fun H=>Z59_walk gx30 H)) rfl ?_;refine Sd NB ?_;refine DOps.nil (by decide +kernel) ?_;refine cE hE (fun hc31 hE=>?_) (fun hc31 hE=>?_)
      ·refine region ?_;refine S Mv (S Mv (S BU (S BV ?_)));obtain⟨x32,gx32,hE⟩:=bO hE;refine sH (appM (f:=TFault.c) (TK rfl) rfl (TK rfl) (TK rfl) ⟨_,rfl⟩ rfl rfl (by decide) rfl rfl rfl rfl hpG rfl gx32) rfl ?_;refine hq (H.set tk1 (some (.tok 2 x32.l.length))) ?_;refine S As ?_;refine nil ?_;exact hK14 _ x32 Weak.toA hE
      refine AWp.seqD ?_;refine Sd Ld (Sd Mv (Sd Mv ?_));obtain⟨x34,gx34,hE⟩:=bO hE;refine DOps.s0 (idxMn (f:=TInput.c) (n:=s10_9) (TK rfl) rfl (TK rfl) rfl rfl rfl gx34) rfl ?_;refine Sd Fv (Sd Fv (Sd Ld ?_));obtain⟨x35,gx35,hE⟩:=bO hE;refine DOps.s0 (callP rfl rfl (fun H=>Z47_walk gx35 H)) rfl ?_;refine Sd NB ?_;refine DOps.nil (by decide +kernel) ?_;refine cE hE (fun hc36 hE=>?_) (fun hc36 hE=>?_)
      ·refine region ?_;refine S Mv (S Mv (S BU (S BV ?_)));obtain⟨x37,gx37,hE⟩:=bO hE;refine sH (appM (f:=TFault.c) (TK rfl) rfl (TK rfl) (TK rfl) ⟨_,rfl⟩ rfl rfl (by decide) rfl rfl rfl rfl hpG rfl gx37) rfl ?_;refine hq (H.set tk1 (some (.tok 2 x37.l.length))) ?_;refine S As ?_;refine nil ?_;exact hK14 _ x37 Weak.toA hE
      refine AWp.skip ?_;exact hK14 _ x27 Weak.toA hE
     rintro s9_15 hE;try dsimp only at hE
     unfold Z58_j14 at hE;refine region ?_;refine S Mv ?_;refine SI ?_;refine S As ?_;refine nil ?_;exact hK7 _ (n7,s9_15,(s10_9+1)) Weak.toA hE (Nat.lt_succ_self _)
    refine AWp.exit ?_;exact hK3 _ s9_8 Weak.toA hE
 rintro s9_4 hE;try dsimp only at hE
 unfold Z58_j3 at hE;refine seqR ?_;refine S Mv (S As ?_);refine nil ?_;refine AWp.dropTok 8 rfl ?_;refine AWp.ret ?_;repeat (first|refine xBlock_ret ?_|refine xThen_ret ?_)
 obtain rfl:=Option.some.inj hE;refine retQ.retF H rfl ⟨rfl,rfl⟩ ?_
 first|exact Heap.sub_set htk1|(simp only [Heap.set_set]; exact Heap.sub_set htk1)
end Go.Proofs
