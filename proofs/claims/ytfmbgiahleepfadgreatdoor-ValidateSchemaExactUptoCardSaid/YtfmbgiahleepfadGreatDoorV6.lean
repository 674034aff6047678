import Derived.Test.YtfmbgiahleepfadGreatDoorV5
set_option maxRecDepth 100000
set_option maxHeartbeats 2000000
set_option linter.unusedVariables false
set_option linter.unusedSimpArgs false
namespace Go.Proofs
open Go Go.Ab
open AOps Cert AWp Keeps KeepsT
variable {lou:Lou}
def Z52 (a0:TRef):Option (TRef×Bool):=(Z53 a0).bind fun x4=>bif (!x4) then(some ((TRef.mk ([]:Bs) (Sl.nil:Sl Int)),false)) else((Z55 a0).bind fun x8=>(Z58 x8).bind fun x9=>some (x9,true))
theorem Z52_walk {a0:TRef}{r:TRef×Bool}(hE:Z52 a0=some r) (H:Heap) :ACalls Tryz.prog 174 [.agg (TRef.c a0)] H fun v h'=>v=.tup [.agg (TRef.c r.1),.d (.bool r.2)]/\h'=H:=by
 unfold Z52 at hE;refine ACalls.oW 11 [.cell 2 40,.tmp 3] Tryz.call174 Tryz.func174 ?_;refine seqR (S BX ?_);refine Sl ?_;refine S As (nil ?_);refine seqK fun K2 hK2=>?_;refine seqR (S Ld ?_);obtain⟨x4,gx4,hE⟩:=bO hE;refine Sc rfl rfl (Z53_walk gx4) ?_;refine S NB (nil ?_);refine cE hE (fun hc5 hE=>?_) (fun hc5 hE=>?_)
 ·refine seqR (S BU ?_);refine Sf ?_;refine S As (nil ?_);exact rt hE
 refine sk hK2 ?_;clear hK2 K2;refine seqR (S Ld ?_);obtain⟨x8,gx8,hE⟩:=bO hE;refine Sc rfl rfl (Z55_walk gx8) ?_;obtain⟨x9,gx9,hE⟩:=bO hE;refine Sc rfl rfl (Z58_walk gx9) ?_;refine Sf ?_;refine S As (nil ?_);exact rt hE
def Z95_j2  :Option Bool:=some false
def Z95_l5 (a0:TDef) (a1:Bs) :Nat->Nat->Option Bool
 | 0,_=>none
 | n5+1,s5_6=>bif (decide (((s5_6:Nat):Int)<((a0.FMembers.l.length:Nat):Int))) then((a0.FMembers.l[s5_6]?).bind fun x13=>bif ((x13.FName==a1)) then(some true) else((Z95_l5 a0 a1 n5) (s5_6+1))) else(Z95_j2   )
def Z95 (a0:TDef) (a1:Bs):Option Bool:=Z95_l5 a0 a1 (a0.FMembers.l.length+1) 0
theorem Z95_walk {a0:TDef}{a1:Bs}{r:Bool}(hE:Z95 a0 a1=some r) (H:Heap) :ACalls Tryz.prog 94 [.agg (TDef.c a0),.d (.str a1)] H fun v h'=>v=.a (.d (.bool r))/\h'=H:=by
 unfold Z95 at hE;refine ACalls.oW 21 [.tmp 4] Tryz.call94 Tryz.func94 ?_;refine seqR (S BX (S As (nil ?_)));refine seqJH KeepsT.nil (fun(z:Unit)=>[]) (fun z=>H) (fun z=>Z95_j2 =some r) ?_ ?_
 ·intro K2 hK2;refine seqR (S As (nil ?_));refine block ?_;refine loopH (TA 1 (TA 2 KeepsT.nil)) (fun(z:Nat×Nat)=>[(5,.a (.d (.int .i64 ((z.2:Nat):Int))))]) (fun z=>H) (fun z=>z.1) (fun z=>Z95_l5 a0 a1 z.1 z.2=some r) ((a0.FMembers.l.length+1),0) hE Weak.toA ?_;rintro ⟨n5,s5_6⟩ hE K5 hK5;try dsimp only at hE
  cases n5 with
  | zero=>cases hE
  | succ n5 =>
    rw [Z95_l5] at hE;refine seqK fun K7 hK7=>?_;refine seqR (S Mv (S Fv (S Ld ?_)));refine sLen (f:=Z8.c) (s:=a0.FMembers) (TK rfl) rfl rfl rfl rfl fun hL9=>?_;refine S BI (nil ?_);refine cE hE (fun hc10 hE=>?_) (fun hc10 hE=>?_)
    ·try dsimp only at hc10
     have hf10:=of_decide_eq_true hc10;refine sk hK7 ?_;clear hK7 K7;refine seqK fun K11 hK11=>?_;refine block ?_;refine seqR (S Fv (S Ld (S Mv ?_)));obtain⟨x13,gx13,hE⟩:=bO hE;refine S (ix Z8.c s5_6 gx13) (S Fv (S Ld (S Mv (S BS (nil ?_)))));refine cE hE (fun hc14 hE=>?_) (fun hc14 hE=>?_)
     ·refine seqR (S As (nil ?_));exact rt hE
     refine sk hK11 ?_;clear hK11 K11;refine region ?_;refine S Mv ?_;refine SI ?_;refine S As (nil ?_);exact hK5 _ (n5,(s5_6+1)) Weak.toA hE (Nat.lt_succ_self _)
    refine AWp.exit ?_;exact hK2 _ () Weak.toA hE
 rintro _ hE;try dsimp only at hE
 unfold Z95_j2 at hE;refine seqR (S As (nil ?_));exact rt hE
def Z92_j2  :Option Bool:=some true
def Z92_l5 (a0:TDoc) (a1:Int) :Nat->Int->Option Bool
 | 0,_=>none
 | n5+1,s5_6=>bif (decide (s5_6<a1)) then((idxC a0.FDefs.l s5_6).bind fun x12=>(idxC a0.FDefs.l a1).bind fun x13=>bif ((x12.FName==x13.FName)) then(some false) else((addC s5_6 (1:Int)).bind fun x16=>(Z92_l5 a0 a1 n5) x16)) else(Z92_j2   )
def Z92 (a0:TDoc) (a1:Int):Option Bool:=Z92_l5 a0 a1 F0 (0:Int)
theorem Z92_walk {a0:TDoc}{a1:Int}{r:Bool}(hE:Z92 a0 a1=some r) (H:Heap) :ACalls Tryz.prog 215 [.agg (TDoc.c a0),.d (.int .i64 a1)] H fun v h'=>v=.a (.d (.bool r))/\h'=H:=by
 unfold Z92 at hE;refine ACalls.oW 24 [.tmp 4] Tryz.call215 Tryz.func215 ?_;refine seqR (S BX (S As (nil ?_)));refine seqJH KeepsT.nil (fun(z:Unit)=>[]) (fun z=>H) (fun z=>Z92_j2 =some r) ?_ ?_
 ·intro K2 hK2;refine seqR (S As (nil ?_));refine block ?_;refine loopH (TA 1 (TA 2 KeepsT.nil)) (fun(z:Nat×Int)=>[(5,.a (.d (.int .i64 z.2)))]) (fun z=>H) (fun z=>z.1) (fun z=>Z92_l5 a0 a1 z.1 z.2=some r) (F0,(0:Int)) hE Weak.toA ?_;rintro ⟨n5,s5_6⟩ hE K5 hK5;try dsimp only at hE
  cases n5 with
  | zero=>cases hE
  | succ n5 =>
    rw [Z92_l5] at hE;refine seqK fun K7 hK7=>?_;refine seqR (S Mv (S Mv (S BI (nil ?_))));refine cE hE (fun hc9 hE=>?_) (fun hc9 hE=>?_)
    ·refine sk hK7 ?_;clear hK7 K7;refine seqK fun K10 hK10=>?_;refine block ?_;refine AWp.seqD (Sd Fv (Sd Ld (Sd Mv ?_)));obtain⟨x12,gx12,hE⟩:=bO hE;refine DOps.s0 (idxM (f:=TDef.c) (TK rfl) rfl (TK rfl) rfl rfl rfl gx12) rfl ?_;refine Sd Fv (Sd Ld (Sd Fv (Sd Ld (Sd Mv ?_))));obtain⟨x13,gx13,hE⟩:=bO hE;refine DOps.s0 (idxM (f:=TDef.c) (TK rfl) rfl (TK rfl) rfl rfl rfl gx13) rfl ?_;refine Sd Fv (Sd Ld (Sd BS ?_))
     refine DOps.nil (by decide +kernel) ?_;refine cE hE (fun hc14 hE=>?_) (fun hc14 hE=>?_)
     ·refine seqR (S As (nil ?_));exact rt hE
     refine sk hK10 ?_;clear hK10 K10;refine region ?_;refine S Mv ?_;obtain⟨x16,gx16,hE⟩:=bO hE;refine s0 (addM rfl rfl gx16) rfl ?_;refine S As (nil ?_);exact hK5 _ (n5,x16) Weak.toA hE (Nat.lt_succ_self _)
    refine AWp.exit ?_;exact hK2 _ () Weak.toA hE
 rintro _ hE;try dsimp only at hE
 unfold Z92_j2 at hE;refine seqR (S As (nil ?_));exact rt hE
def Z89_j5  (s5_6:(Sl Bs)):Option (Sl Bs):=some s5_6
def Z89_j16 (s8_11:Nat) (k_next_9:(Sl Bs)->Nat->Option (Sl Bs)) (s5_17:(Sl Bs)):Option (Sl Bs):=k_next_9 s5_17 (s8_11+1)
def Z89_l9 (a0:TDoc) (a1:Bs) (x4:(TDef×Bool)) :Nat->(Sl Bs)->Nat->Option (Sl Bs)
 | 0,_,_=>none
 | n9+1,s5_10,s8_11=>bif ((decide (((s8_11:Nat):Int)<((a0.FDefs.l.length:Nat):Int)))&&x4.2) then((a0.FDefs.l[s8_11]?).bind fun x19=>guardO (!(!decide (x19.FKind=(1:Int)))) (Z92 a0 ((s8_11:Nat):Int)) false fun x22=>bif ((!decide (x19.FKind=(1:Int)))||(!x22)) then(Z89_j16 s8_11 ((Z89_l9 a0 a1 x4 n9)) s5_10) else(guardO ((!((decide (x4.1.FKind=(1:Int)))&&((x19.FName==a1)))&&(decide (x4.1.FKind=(2:Int))))) (Z93 x19.FImplements a1) false fun x26=>guardO ((!(((decide (x4.1.FKind=(1:Int)))&&((x19.FName==a1)))||((decide (x4.1.FKind=(2:Int)))&&x26))&&(decide (x4.1.FKind=(3:Int))))) (Z95 x4.1 x19.FName) false fun x28=>bif ((((decide (x4.1.FKind=(1:Int)))&&((x19.FName==a1)))||((decide (x4.1.FKind=(2:Int)))&&x26))||((decide (x4.1.FKind=(3:Int)))&&x28)) then((appC 16 s5_10 (⟨false,[x19.FName]⟩:Sl Bs)).bind fun x31=>Z89_j16 s8_11 ((Z89_l9 a0 a1 x4 n9)) x31) else(Z89_j16 s8_11 ((Z89_l9 a0 a1 x4 n9)) s5_10))) else(Z89_j5   s5_10)
def Z89 (a0:TDoc) (a1:Bs):Option (Sl Bs):=(Z70 a0 a1).bind fun x4=>Z89_l9 a0 a1 x4 (a0.FDefs.l.length+1) (Sl.nil:Sl Bs) 0
theorem Z89_walk {a0:TDoc}{a1:Bs}{r:Sl Bs}(hE:Z89 a0 a1=some r) (H:Heap) :ACalls Tryz.prog 195 [.agg (TDoc.c a0),.d (.str a1)] H fun v h'=>v=.a (.d (Sl.d 1 strE none r))/\h'=H:=by
 unfold Z89 at hE;refine ACalls.oW 81 [.tmp 4] Tryz.call195 Tryz.func195 ?_;refine AWp.tok 1 fun tk1 htk1=>?_;refine seqR (S BX ?_);refine s0 (assignNil (k':=1) rfl) rfl ?_;refine nil ?_;refine seqR (S As (nil ?_));refine AWp.nilTok 5 1 tk1 rfl hpG ?_;refine seqR (S Ld (S Mv ?_));obtain⟨x4,gx4,hE⟩:=bO hE;refine Sc rfl rfl (Z70_walk gx4) ?_;refine S Mv (S EX (S EX ?_));refine Sl ?_;refine Sf ?_;refine S As (nil ?_)
 refine freezeA 6 _ rfl (KA 1 (KA 2 (KA 5 (KA 7 Keeps.nil)))) ?_;refine seqJH KeepsT.nil (fun(z:(Sl Bs))=>[(5,.a (.d (Sl.d 1 strE (some tk1) z)))]) (fun z=>(H.set tk1 (some (.tok 1 z.l.length)))) (fun z=>Z89_j5 z=some r) ?_ ?_
 ·intro K5 hK5;refine seqR (S As (nil ?_));refine block ?_;refine loopH (TA 1 (TA 2 (TA 6 (TA 7 KeepsT.nil)))) (fun(z:Nat×(Sl Bs)×Nat)=>[(5,.a (.d (Sl.d 1 strE (some tk1) z.2.1))),(8,.a (.d (.int .i64 ((z.2.2:Nat):Int))))]) (fun z=>(H.set tk1 (some (.tok 1 z.2.1.l.length)))) (fun z=>z.1) (fun z=>Z89_l9 a0 a1 x4 z.1 z.2.1 z.2.2=some r) ((a0.FDefs.l.length+1),(Sl.nil:Sl Bs),0) hE Weak.toA ?_;rintro ⟨n9,s5_10,s8_11⟩ hE K9 hK9
  try dsimp only at hE
  cases n9 with
  | zero=>cases hE
  | succ n9 =>
    rw [Z89_l9] at hE;refine seqK fun K12 hK12=>?_;refine seqR (S Mv (S Fv (S Ld ?_)));refine sLen (f:=TDef.c) (s:=a0.FDefs) (TK rfl) rfl rfl rfl rfl fun hL14=>?_;refine S BI (S Mv (G0 Mv (S PA (nil ?_))));refine cE hE (fun hc15 hE=>?_) (fun hc15 hE=>?_)
    ·try dsimp only at hc15
     have hf15:=of_decide_eq_true (and_left hc15);refine sk hK12 ?_;clear hK12 K12;refine seqJH (TA 1 (TA 2 (TA 6 (TA 7 (TA 8 KeepsT.nil))))) (fun(z:(Sl Bs))=>[(5,.a (.d (Sl.d 1 strE (some tk1) z)))]) (fun z=>(H.set tk1 (some (.tok 1 z.l.length)))) (fun z=>Z89_j16 s8_11 ((Z89_l9 a0 a1 x4 n9)) z=some r) ?_ ?_
     ·intro K16 hK16;refine block ?_;refine seqR (S Fv (S Ld (S Mv ?_)));obtain⟨x19,gx19,hE⟩:=bO hE;refine S (ix TDef.c s8_11 gx19) (S Ld ?_);refine Sl ?_;refine Sf ?_;refine nil ?_;refine freezeA 9 _ rfl (KA 1 (KA 2 (KA 5 (KA 6 (KA 7 (KA 8 Keeps.nil)))))) ?_;refine seqK fun K20 hK20=>?_;refine seqR (S Fv (S Ld (S BI (S Mv (G0 Ld (G0 Mv ?_))))));obtain⟨x22,gx22,hE⟩:=gO hE;refine Gc2 36 37 rfl rfl rfl rfl rfl rfl (fun hC=>Z92_walk (gx22 hC)) ?_
      refine G1 38 rfl NB ?_;refine S PO (nil ?_);refine cE hE (fun hc23 hE=>?_) (fun hc23 hE=>?_)
      ·refine AWp.exit ?_;exact hK16 _ s5_10 Weak.toA hE
      refine sk hK20 ?_;clear hK20 K20;refine seqR (S Fv (S Ld (S BI (S Mv (G0 Fv ?_)))));refine G1 45 rfl Ld ?_;refine G0 Mv ?_;refine G2 46 47 rfl rfl BS ?_;refine S PA (S As (nil ?_));refine seqR (S Mv (S Mv (G0 Fv ?_)));refine G1 52 rfl Ld ?_;refine G1 53 rfl BI ?_;refine G1 54 rfl Mv ?_;refine G0 Fv ?_;refine G1 56 rfl Ld ?_;refine G0 Mv ?_;obtain⟨x26,gx26,hE⟩:=gO hE;refine Gc2 57 58 rfl rfl rfl rfl rfl rfl (fun hC=>Z93_walk (gx26 hC)) ?_
      refine gC rfl rfl (fun hC=>ungdA (k:=55) rfl (pickAndA rfl rfl rfl)) rfl ?_;refine S PO (S As (nil ?_));refine seqR (S Mv (S Mv (G0 Fv ?_)));refine G1 64 rfl Ld ?_;refine G1 65 rfl BI ?_;refine G1 66 rfl Mv ?_;refine G0 Ld (G0 Fv ?_);refine G1 69 rfl Ld ?_;obtain⟨x28,gx28,hE⟩:=gO hE;refine Gc2 68 70 rfl rfl rfl rfl rfl rfl (fun hC=>Z95_walk (gx28 hC)) ?_;refine gC rfl rfl (fun hC=>ungdA (k:=67) rfl (pickAndA rfl rfl rfl)) rfl ?_
      refine S PO (S As (nil ?_));refine seqR (S Mv (nil ?_));refine cE hE (fun hc30 hE=>?_) (fun hc30 hE=>?_)
      ·refine region ?_;refine S Mv (S Fv (S Ld (S BV ?_)));obtain⟨x31,gx31,hE⟩:=bO hE;refine SH (am strE (TK rfl) rfl (TK rfl) (TK rfl) gx31) ?_;refine hq (H.set tk1 (some (.tok 1 x31.l.length))) ?_;refine S As (nil ?_);exact hK16 _ x31 Weak.toA hE
      refine AWp.skip ?_;exact hK16 _ s5_10 Weak.toA hE
     rintro s5_17 hE;try dsimp only at hE
     unfold Z89_j16 at hE;refine region ?_;refine S Mv ?_;refine SI ?_;refine S As (nil ?_);exact hK9 _ (n9,s5_17,(s8_11+1)) Weak.toA hE (Nat.lt_succ_self _)
    refine AWp.exit ?_;exact hK5 _ s5_10 Weak.toA hE
 rintro s5_6 hE;try dsimp only at hE
 unfold Z89_j5 at hE;refine seqR (S Mv (S As (nil ?_)));refine AWp.dropTok 4 rfl ?_;refine AWp.ret ?_;repeat (first|refine xBlock_ret ?_|refine xThen_ret ?_)
 obtain rfl:=Option.some.inj hE;refine retQ.retF H rfl ⟨rfl,rfl⟩ ?_
 first|exact Heap.sub_set htk1|(simp only [Heap.set_set]; exact Heap.sub_set htk1)
def Z88 (a0:TDoc) (a1:Bs) (a2:Bs):Option Bool:=(Z89 a0 a2).bind fun x3=>(Z93 x3 a1).bind fun x4=>some x4
theorem Z88_walk {a0:TDoc}{a1 a2:Bs}{r:Bool}(hE:Z88 a0 a1 a2=some r) (H:Heap) :ACalls Tryz.prog 175 [.agg (TDoc.c a0),.d (.str a1),.d (.str a2)] H fun v h'=>v=.a (.d (.bool r))/\h'=H:=by
 unfold Z88 at hE;refine ACalls.oW 12 [.tmp 6] Tryz.call175 Tryz.func175 ?_;refine seqR (S BX (S As (nil ?_)));refine seqR (S Ld (S Mv ?_));obtain⟨x3,gx3,hE⟩:=bO hE;refine Sc rfl rfl (Z89_walk gx3) ?_;refine S Mv ?_;obtain⟨x4,gx4,hE⟩:=bO hE;refine Sc rfl rfl (Z93_walk gx4) ?_;refine S As (nil ?_);exact rt hE
def Z90_n:Nat->TDoc->TRef->TRef->Option Bool
 | 0,_,_,_=>none
 | n+1,a0,a1,a2=>(Z54 a2).bind fun x4=>bif x4 then((Z54 a1).bind fun x7=>guardO (x7) (Z55 a1) TRef.zero fun x8=>guardO (x7) (Z55 a2) TRef.zero fun x9=>guardO (x7) ((Z90_n n) a0 x8 x9) false fun x10=>some (x7&&x10)) else((Z54 a1).bind fun x13=>bif x13 then((Z55 a1).bind fun x16=>((Z90_n n) a0 x16 a2).bind fun x17=>some x17) else((Z52 a1).bind fun x19=>(Z52 a2).bind fun x21=>bif (x19.2&&x21.2) then(((Z90_n n) a0 x19.1 x21.1).bind fun x26=>some x26) else(guardO ((((!x19.2)&&(!x21.2))&&!((a1.FName==a2.FName)))) (Z88 a0 a1.FName a2.FName) false fun x28=>some (((!x19.2)&&(!x21.2))&&(((a1.FName==a2.FName))||x28)))))
theorem Z90_step (n:Nat) (ih_139:∀{a0:TDoc}{a1 a2:TRef}{r:Bool},Z90_n n a0 a1 a2=some r->∀(H:Heap),ACalls Tryz.prog 139 [.agg (TDoc.c a0),.agg (TRef.c a1),.agg (TRef.c a2)] H fun v h'=>v=.a (.d (.bool r))/\h'=H):∀{a0:TDoc}{a1 a2:TRef}{r:Bool},Z90_n (n+1) a0 a1 a2=some r->∀(H:Heap),ACalls Tryz.prog 139 [.agg (TDoc.c a0),.agg (TRef.c a1),.agg (TRef.c a2)] H fun v h'=>v=.a (.d (.bool r))/\h'=H:=by
 intro a0 a1 a2   r hE H ;rw [Z90_n] at hE;refine ACalls.oW 69 [.tmp 6] Tryz.call139 Tryz.func139 ?_;refine seqR (S BX (S BX (S BX (S As (nil ?_)))));refine seqK fun K2 hK2=>?_;refine seqR (S Ld ?_);obtain⟨x4,gx4,hE⟩:=bO hE;refine Sc rfl rfl (Z54_walk gx4) ?_;refine nil ?_;refine cE hE (fun hc5 hE=>?_) (fun hc5 hE=>?_)
 ·refine AWp.seqD (Sd Ld ?_);obtain⟨x7,gx7,hE⟩:=bO hE;refine Scd rfl rfl (Z54_walk gx7) ?_;refine Sd Mv (G0d Ld (G0d Ld ?_));obtain⟨x8,gx8,hE⟩:=gO hE;refine Gc1d 17 rfl rfl rfl rfl rfl (fun hC=>Z55_walk (gx8 hC)) ?_;refine G0d Ld ?_;obtain⟨x9,gx9,hE⟩:=gO hE;refine Gc1d 19 rfl rfl rfl rfl rfl (fun hC=>Z55_walk (gx9 hC)) ?_;obtain⟨x10,gx10,hE⟩:=gO hE;refine DOps.gC rfl rfl (fun hC=>ungdA (k:=16) rfl (ungdA (k:=18) rfl (ungdA (k:=20) rfl (callP rfl rfl (fun H=>ih_139 (gx10 hC) H))))) rfl ?_
  refine Sd PA (Sd As ?_);refine DOps.nil (by decide +kernel) ?_;exact rt hE
 refine sk hK2 ?_;clear hK2 K2;refine seqK fun K11 hK11=>?_;refine seqR (S Ld ?_);obtain⟨x13,gx13,hE⟩:=bO hE;refine Sc rfl rfl (Z54_walk gx13) ?_;refine nil ?_;refine cE hE (fun hc14 hE=>?_) (fun hc14 hE=>?_)
 ·refine AWp.seqD (Sd Ld (Sd Ld ?_));obtain⟨x16,gx16,hE⟩:=bO hE;refine Scd rfl rfl (Z55_walk gx16) ?_;refine Sd Ld ?_;obtain⟨x17,gx17,hE⟩:=bO hE;refine Scd rfl rfl (ih_139 gx17) ?_;refine Sd As ?_;refine DOps.nil (by decide +kernel) ?_;exact rt hE
 refine sk hK11 ?_;clear hK11 K11;refine seqR (S Ld ?_);obtain⟨x19,gx19,hE⟩:=bO hE;refine Sc rfl rfl (Z52_walk gx19) ?_;refine S Mv (S EX (S EX ?_));refine Sl ?_;refine Sf ?_;refine S As (nil ?_);refine freezeA 7 _ rfl (KA 3 (KA 4 (KA 5 (KA 8 Keeps.nil)))) ?_;refine seqR (S Ld ?_);obtain⟨x21,gx21,hE⟩:=bO hE;refine Sc rfl rfl (Z52_walk gx21) ?_;refine S Mv (S EX (S EX ?_));refine Sl ?_;refine Sf ?_
 refine S As (nil ?_);refine freezeA 9 _ rfl (KA 3 (KA 4 (KA 5 (KA 7 (KA 8 (KA 10 Keeps.nil)))))) ?_;refine seqK fun K22 hK22=>?_;refine seqR (S Mv (S Mv (G0 Mv (S PA (nil ?_)))));refine cE hE (fun hc24 hE=>?_) (fun hc24 hE=>?_)
 ·refine seqR (S Ld (S Ld (S Ld ?_)));obtain⟨x26,gx26,hE⟩:=bO hE;refine Sc rfl rfl (ih_139 gx26) ?_;refine S As (nil ?_);exact rt hE
 refine sk hK22 ?_;clear hK22 K22;refine seqR (S Mv (S NB (S Mv (G0 Mv ?_))));refine G1 51 rfl NB ?_;refine S PA (S Mv (G0 Fv ?_));refine G1 55 rfl Ld ?_;refine G0 Fv ?_;refine G1 57 rfl Ld ?_;refine G2 56 58 rfl rfl BS ?_;refine G1 59 rfl Mv ?_;refine G0 Ld (G0 Fv ?_);refine G1 62 rfl Ld ?_;refine G0 Fv ?_;refine G1 64 rfl Ld ?_;obtain⟨x28,gx28,hE⟩:=gO hE;refine gC rfl rfl (fun hC=>ungdA (k:=61) rfl (ungdA (k:=63) rfl (ungdA (k:=65) rfl (callP rfl rfl (fun H=>Z88_walk (gx28 hC) H))))) rfl ?_
 refine gC rfl rfl (fun hC=>ungdA (k:=60) rfl (pickOrA rfl rfl rfl)) rfl ?_;refine S PA (S As (nil ?_));exact rt hE
theorem Z90_all:∀(n:Nat),(∀{a0:TDoc}{a1 a2:TRef}{r:Bool},Z90_n n a0 a1 a2=some r->∀(H:Heap),ACalls Tryz.prog 139 [.agg (TDoc.c a0),.agg (TRef.c a1),.agg (TRef.c a2)] H fun v h'=>v=.a (.d (.bool r))/\h'=H)
 | 0=>fun hE=>by first|cases hE|(rw [Z90_n] at hE; cases hE)
 | n+1=>Z90_step n (Z90_all n)
def Z90 (a0:TDoc) (a1:TRef) (a2:TRef):Option Bool:=Z90_n F0 a0 a1 a2
theorem Z90_walk {a0:TDoc}{a1 a2:TRef}{r:Bool}(hE:Z90 a0 a1 a2=some r) (H:Heap) :ACalls Tryz.prog 139 [.agg (TDoc.c a0),.agg (TRef.c a1),.agg (TRef.c a2)] H fun v h'=>v=.a (.d (.bool r))/\h'=H:=(Z90_all F0) hE H 
def Z59_j8  :Option Bool:=some true
def Z59_l11 (a0:(Sl Int)) (a1:(Sl Int)) :Nat->Nat->Option Bool
 | 0,_=>none
 | n11+1,s5_12=>bif (decide (((s5_12:Nat):Int)<((a0.l.length:Nat):Int))) then((a0.l[s5_12]?).bind fun x19=>(a1.l[s5_12]?).bind fun x20=>bif (!decide (x19=x20)) then(some false) else((Z59_l11 a0 a1 n11) (s5_12+1))) else(Z59_j8   )
def Z59 (a0:(Sl Int)) (a1:(Sl Int)):Option Bool:=bif (!decide (((a0.l.length:Nat):Int)=((a1.l.length:Nat):Int))) then(some false) else(Z59_l11 a0 a1 (a0.l.length+1) 0)
theorem Z59_walk {a0 a1:Sl Int}{w0 w1:Option Nat}{r:Bool}(hE:Z59 a0 a1=some r) (H:Heap) :ACalls Tryz.prog 176 [.d (Sl.d 1 (intE .i64) w0 a0),.d (Sl.d 1 (intE .i64) w1 a1)] H fun v h'=>v=.a (.d (.bool r))/\h'=H:=by
 unfold Z59 at hE;refine ACalls.oW 26 [.tmp 4] Tryz.call176 Tryz.func176 ?_;refine seqR (S As (nil ?_));refine seqK fun K2 hK2=>?_;refine seqR (S Mv ?_);refine sLen (f:=(intE .i64)) (s:=a0) (TK rfl) rfl rfl rfl rfl fun hL4=>?_;refine S Mv ?_;refine sLen (f:=(intE .i64)) (s:=a1) (TK rfl) rfl rfl rfl rfl fun hL5=>?_;refine S BI (nil ?_);refine cE hE (fun hc6 hE=>?_) (fun hc6 hE=>?_)
 ·refine seqR (S As (nil ?_));exact rt hE
 refine sk hK2 ?_;clear hK2 K2;refine seqJH KeepsT.nil (fun(z:Unit)=>[]) (fun z=>H) (fun z=>Z59_j8 =some r) ?_ ?_
 ·intro K8 hK8;refine seqR (S As (nil ?_));refine block ?_;refine loopH (TA 0 (TA 1 KeepsT.nil)) (fun(z:Nat×Nat)=>[(5,.a (.d (.int .i64 ((z.2:Nat):Int))))]) (fun z=>H) (fun z=>z.1) (fun z=>Z59_l11 a0 a1 z.1 z.2=some r) ((a0.l.length+1),0) hE Weak.toA ?_;rintro ⟨n11,s5_12⟩ hE K11 hK11;try dsimp only at hE
  cases n11 with
  | zero=>cases hE
  | succ n11 =>
    rw [Z59_l11] at hE;refine seqK fun K13 hK13=>?_;refine seqR (S Mv (S Mv ?_));refine sLen (f:=(intE .i64)) (s:=a0) (TK rfl) rfl rfl rfl rfl fun hL15=>?_;refine S BI (nil ?_);refine cE hE (fun hc16 hE=>?_) (fun hc16 hE=>?_)
    ·try dsimp only at hc16
     have hf16:=of_decide_eq_true hc16;refine sk hK13 ?_;clear hK13 K13;refine seqK fun K17 hK17=>?_;refine block ?_;refine AWp.seqD (Sd Mv (Sd Mv ?_));obtain⟨x19,gx19,hE⟩:=bO hE;refine Sd (ix (intE .i64) s5_12 gx19) ?_;refine Sd Ld (Sd Mv (Sd Mv ?_));obtain⟨x20,gx20,hE⟩:=bO hE;refine Sd (ix (intE .i64) s5_12 gx20) ?_;refine Sd Ld (Sd BI ?_);refine DOps.nil (by decide +kernel) ?_;refine cE hE (fun hc21 hE=>?_) (fun hc21 hE=>?_)
     ·refine seqR (S As (nil ?_));exact rt hE
     refine sk hK17 ?_;clear hK17 K17;refine region ?_;refine S Mv ?_;refine SI ?_;refine S As (nil ?_);exact hK11 _ (n11,(s5_12+1)) Weak.toA hE (Nat.lt_succ_self _)
    refine AWp.exit ?_;exact hK8 _ () Weak.toA hE
 rintro _ hE;try dsimp only at hE
 unfold Z59_j8 at hE;refine seqR (S As (nil ?_));exact rt hE
def Z57 (a0:TRef) (a1:TRef):Option Bool:=guardO (((a0.FName==a1.FName))) (Z59 a0.FWraps a1.FWraps) false fun x3=>some (((a0.FName==a1.FName))&&x3)
theorem Z57_walk {a0 a1:TRef}{r:Bool}(hE:Z57 a0 a1=some r) (H:Heap) :ACalls Tryz.prog 140 [.agg (TRef.c a0),.agg (TRef.c a1)] H fun v h'=>v=.a (.d (.bool r))/\h'=H:=by
 unfold Z57 at hE;refine ACalls.oW 17 [.tmp 4] Tryz.call140 Tryz.func140 ?_;refine seqR (S BX (S BX (S As (nil ?_))));refine seqR (S Fv (S Ld (S Fv (S Ld (S BS (S Mv (G0 Fv ?_)))))));refine G1 11 rfl Ld ?_;refine G0 Fv ?_;refine G1 13 rfl Ld ?_;obtain⟨x3,gx3,hE⟩:=gO hE;refine Gc2 12 14 rfl rfl rfl rfl rfl rfl (fun hC=>Z59_walk (gx3 hC)) ?_;refine S PA (S As (nil ?_));exact rt hE
end Go.Proofs

namespace Go.Proofs
open Go Go.Ab
open AOps Cert AWp Keeps KeepsT
variable {lou:Lou}
def Z91_j16  (s10_17:(Sl Z4)):Option (Sl Z4):=some s10_17
def Z91_j27 (s14_22:Nat) (k_next_20:(Sl Z4)->Nat->Option (Sl Z4)) (s10_28:(Sl Z4)):Option (Sl Z4):=k_next_20 s10_28 (s14_22+1)
def Z91_l20 (a2:Z5) (x4:Bs) (x6:(Z5×Bool)) :Nat->(Sl Z4)->Nat->Option (Sl Z4)
 | 0,_,_=>none
 | n20+1,s10_21,s14_22=>bif (decide (((s14_22:Nat):Int)<((x6.1.FArgs.l.length:Nat):Int))) then((x6.1.FArgs.l[s14_22]?).bind fun x30=>(Z71 a2.FArgs x30.FName).bind fun x31=>guardO ((!x31.2)) (x6.1.FArgs.l[s14_22]?) Z7.zero fun x33=>guardO ((!x31.2)) (Z54 x33.FType) false fun x34=>guardO (((!x31.2)&&x34)) (x6.1.FArgs.l[s14_22]?) Z7.zero fun x35=>bif (((!x31.2)&&x34)&&(!x35.FHas)) then((catC x4 ([40]:Bs)).bind fun x37=>(x6.1.FArgs.l[s14_22]?).bind fun x38=>(catC x37 x38.FName).bind fun x39=>(catC x39 ([41]:Bs)).bind fun x40=>(appC 24 s10_21 (⟨false,[(Z4.mk (22:Int) x40)]⟩:Sl Z4)).bind fun x41=>Z91_j27 s14_22 ((Z91_l20 a2 x4 x6 n20)) x41) else(Z91_j27 s14_22 ((Z91_l20 a2 x4 x6 n20)) s10_21)) else(Z91_j16   s10_21)
def Z91_j14 (a2:Z5) (x4:Bs) (x6:(Z5×Bool))  (s10_15:(Sl Z4)):Option (Sl Z4):=Z91_l20 a2 x4 x6 (x6.1.FArgs.l.length+1) s10_15 0
def Z91_j50 (s11_45:Nat) (k_next_43:(Sl Z4)->Nat->Option (Sl Z4)) (s10_51:(Sl Z4)):Option (Sl Z4):=k_next_43 s10_51 (s11_45+1)
def Z91_l43 (a2:Z5) (x4:Bs) (x6:(Z5×Bool)) :Nat->(Sl Z4)->Nat->Option (Sl Z4)
 | 0,_,_=>none
 | n43+1,s10_44,s11_45=>bif (decide (((s11_45:Nat):Int)<((a2.FArgs.l.length:Nat):Int))) then((a2.FArgs.l[s11_45]?).bind fun x53=>(Z71 x6.1.FArgs x53.FName).bind fun x54=>guardO (!(!x54.2)) (a2.FArgs.l[s11_45]?) Z7.zero fun x56=>guardO (!(!x54.2)) (Z57 x54.1.FType x56.FType) false fun x57=>bif ((!x54.2)||(!x57)) then((catC x4 ([40]:Bs)).bind fun x59=>(a2.FArgs.l[s11_45]?).bind fun x60=>(catC x59 x60.FName).bind fun x61=>(catC x61 ([41]:Bs)).bind fun x62=>(appC 24 s10_44 (⟨false,[(Z4.mk (22:Int) x62)]⟩:Sl Z4)).bind fun x63=>Z91_j50 s11_45 ((Z91_l43 a2 x4 x6 n43)) x63) else(Z91_j50 s11_45 ((Z91_l43 a2 x4 x6 n43)) s10_44)) else(Z91_j14 a2 x4 x6  s10_44)
def Z91_j12 (a2:Z5) (x4:Bs) (x6:(Z5×Bool))  (s10_13:(Sl Z4)):Option (Sl Z4):=Z91_l43 a2 x4 x6 (a2.FArgs.l.length+1) s10_13 0
def Z91 (a0:TDoc) (a1:TDef) (a2:Z5):Option (Sl Z4):=(catC a1.FName ([46]:Bs)).bind fun x3=>(catC x3 a2.FName).bind fun x4=>(Z69 a1 a2.FName).bind fun x6=>bif (!x6.2) then(some (⟨false,[(Z4.mk (20:Int) x4)]⟩:Sl Z4)) else((Z90 a0 x6.1.FType a2.FType).bind fun x65=>bif (!x65) then((appC 24 (Sl.nil:Sl Z4) (⟨false,[(Z4.mk (10:Int) x4)]⟩:Sl Z4)).bind fun x67=>Z91_j12 a2 x4 x6  x67) else(Z91_j12 a2 x4 x6  (Sl.nil:Sl Z4)))
theorem Z91_walk {a0:TDoc}{a1:TDef}{a2:Z5}{r:Sl Z4}(hE:Z91 a0 a1 a2=some r) (H:Heap) :ACalls Tryz.prog 93 [.agg (TDoc.c a0),.agg (TDef.c a1),.agg (Z5.c a2)] H fun v h'=>v=.a (.d (Sl.d 2 Z4.c none r))/\h'=H:=by
 unfold Z91 at hE;refine ACalls.oW 148 [.tmp 6] Tryz.call93 Tryz.func93 ?_;refine AWp.tok 2 fun tk1 htk1=>?_;refine seqR (S BX (S BX (S BX ?_)));refine s0 (assignNil (k':=2) rfl) rfl ?_;refine nil ?_;refine seqR (S Fv (S Ld ?_));obtain⟨x3,gx3,hE⟩:=bO hE;refine s0 (catM rfl rfl gx3) rfl ?_;refine S Fv (S Ld ?_);obtain⟨x4,gx4,hE⟩:=bO hE;refine s0 (catM rfl rfl gx4) rfl ?_;refine S As (nil ?_);refine seqR (S Ld (S Fv (S Ld ?_)))
 obtain⟨x6,gx6,hE⟩:=bO hE;refine Sc rfl rfl (Z69_walk gx6) ?_;refine S Mv (S EX (S EX ?_));refine Sl ?_;refine Sf ?_;refine S As (nil ?_);refine freezeA 8 _ rfl (KA 3 (KA 5 (KA 7 (KA 9 Keeps.nil)))) ?_;refine seqK fun K7 hK7=>?_;refine seqR (S Mv (S NB (nil ?_)));refine cE hE (fun hc9 hE=>?_) (fun hc9 hE=>?_)
 ·refine seqR (S Mv (S BU (S BV (S As (nil ?_)))));refine AWp.ret ?_;repeat (first|refine xBlock_ret ?_|refine xThen_ret ?_)
  obtain rfl:=Option.some.inj hE;refine retQ.retF H rfl ⟨rfl,rfl⟩ ?_
  first|exact Heap.sub_set htk1|(simp only [Heap.set_set]; exact Heap.sub_set htk1)
 refine sk hK7 ?_;clear hK7 K7;refine seqR (S As (nil ?_));refine AWp.nilTok 10 2 tk1 rfl hpG ?_;refine seqJH (TA 5 (TA 7 (TA 8 KeepsT.nil))) (fun(z:(Sl Z4))=>[(10,.a (.d (Sl.d 2 Z4.c (some tk1) z)))]) (fun z=>(H.set tk1 (some (.tok 2 z.l.length)))) (fun z=>Z91_j12 a2 x4 x6 z=some r) ?_ ?_
 ·intro K12 hK12;refine seqR (S Ld (S Fv (S Ld (S Fv (S Ld ?_)))));obtain⟨x65,gx65,hE⟩:=bO hE;refine Sc rfl rfl (Z90_walk gx65) ?_;refine S NB (nil ?_);refine cE hE (fun hc66 hE=>?_) (fun hc66 hE=>?_)
  ·refine region ?_;refine S Mv (S Mv (S BU (S BV ?_)));obtain⟨x67,gx67,hE⟩:=bO hE;refine SH (am Z4.c (TK rfl) rfl (TK rfl) (TK rfl) gx67) ?_;refine hq (H.set tk1 (some (.tok 2 x67.l.length))) ?_;refine S As (nil ?_);exact hK12 _ x67 Weak.toA hE
  refine AWp.skip ?_;exact hK12 _ (Sl.nil:Sl Z4) Weak.toA hE
 rintro s10_13 hE;try dsimp only at hE
 unfold Z91_j12 at hE;refine seqJH (TA 5 (TA 7 (TA 8 KeepsT.nil))) (fun(z:(Sl Z4))=>[(10,.a (.d (Sl.d 2 Z4.c (some tk1) z)))]) (fun z=>(H.set tk1 (some (.tok 2 z.l.length)))) (fun z=>Z91_j14 a2 x4 x6 z=some r) ?_ ?_
 ·intro K14 hK14;refine seqR (S As (nil ?_));refine block ?_;refine loopH (TA 5 (TA 7 (TA 8 KeepsT.nil))) (fun(z:Nat×(Sl Z4)×Nat)=>[(10,.a (.d (Sl.d 2 Z4.c (some tk1) z.2.1))),(11,.a (.d (.int .i64 ((z.2.2:Nat):Int))))]) (fun z=>(H.set tk1 (some (.tok 2 z.2.1.l.length)))) (fun z=>z.1) (fun z=>Z91_l43 a2 x4 x6 z.1 z.2.1 z.2.2=some r) ((a2.FArgs.l.length+1),s10_13,0) hE Weak.toA ?_;rintro ⟨n43,s10_44,s11_45⟩ hE K43 hK43
  try dsimp only at hE
  cases n43 with
  | zero=>cases hE
  | succ n43 =>
    rw [Z91_l43] at hE;refine seqK fun K46 hK46=>?_;refine seqR (S Mv (S Fv (S Ld ?_)));refine sLen (f:=Z7.c) (s:=a2.FArgs) (TK rfl) rfl rfl rfl rfl fun hL48=>?_;refine S BI (nil ?_);refine cE hE (fun hc49 hE=>?_) (fun hc49 hE=>?_)
    ·try dsimp only at hc49
     have hf49:=of_decide_eq_true hc49;refine sk hK46 ?_;clear hK46 K46;refine seqJH (TA 5 (TA 7 (TA 8 (TA 11 KeepsT.nil)))) (fun(z:(Sl Z4))=>[(10,.a (.d (Sl.d 2 Z4.c (some tk1) z)))]) (fun z=>(H.set tk1 (some (.tok 2 z.l.length)))) (fun z=>Z91_j50 s11_45 ((Z91_l43 a2 x4 x6 n43)) z=some r) ?_ ?_
     ·intro K50 hK50;refine block ?_;refine AWp.seqD (Sd Fv (Sd Ld (Sd Fv (Sd Ld (Sd Mv ?_)))));obtain⟨x53,gx53,hE⟩:=bO hE;refine Sd (ix Z7.c s11_45 gx53) (Sd Fv (Sd Ld ?_));obtain⟨x54,gx54,hE⟩:=bO hE;refine Scd rfl rfl (Z71_walk gx54) ?_;refine Sd Mv (Sd EX (Sd EX ?_));refine DOps.sB (TK rfl) rfl rfl ?_ (by repeat (first|exact Snoc.nil|apply Snoc.cons));refine DOps.sLn (storeLFA (TK rfl) rfl rfl rfl rfl rfl) ?_
      refine Sd As ?_;refine DOps.nil (by decide +kernel) ?_;refine freezeA 12 _ rfl (KA 5 (KA 7 (KA 8 (KA 10 (KA 11 (KA 13 Keeps.nil)))))) ?_;refine AWp.seqD (Sd Mv (Sd NB (Sd Mv (G0d Fv ?_))));refine G1d 69 rfl Ld ?_;refine G0d Fv ?_;refine G1d 71 rfl Ld ?_;refine G0d Mv ?_;obtain⟨x56,gx56,hE⟩:=gO hE;refine DOps.gC rfl rfl (fun hC=>ungdA (k:=72) rfl (ungdA (k:=73) rfl (idxMn (f:=Z7.c) (n:=s11_45) (TK rfl) rfl (TK rfl) rfl rfl rfl (gx56 hC)))) rfl ?_
      refine G1d 74 rfl Fv ?_;refine G1d 75 rfl Ld ?_;obtain⟨x57,gx57,hE⟩:=gO hE;refine Gc2d 70 76 rfl rfl rfl rfl rfl rfl (fun hC=>Z57_walk (gx57 hC)) ?_;refine G1d 77 rfl NB ?_;refine Sd PO ?_;refine DOps.nil (by decide +kernel) ?_;refine cE hE (fun hc58 hE=>?_) (fun hc58 hE=>?_)
      ·refine region ?_;refine S Mv (S Mv ?_);obtain⟨x59,gx59,hE⟩:=bO hE;refine s0 (catM rfl rfl gx59) rfl ?_;refine S Fv (S Ld (S Mv ?_));obtain⟨x60,gx60,hE⟩:=bO hE;refine S (ix Z7.c s11_45 gx60) (S Fv (S Ld ?_));obtain⟨x61,gx61,hE⟩:=bO hE;refine s0 (catM rfl rfl gx61) rfl ?_;obtain⟨x62,gx62,hE⟩:=bO hE;refine s0 (catM rfl rfl gx62) rfl ?_;refine S BU (S BV ?_);obtain⟨x63,gx63,hE⟩:=bO hE;refine SH (am Z4.c (TK rfl) rfl (TK rfl) (TK rfl) gx63) ?_
       refine hq (H.set tk1 (some (.tok 2 x63.l.length))) ?_;refine S As (nil ?_);exact hK50 _ x63 Weak.toA hE
      refine AWp.skip ?_;exact hK50 _ s10_44 Weak.toA hE
     rintro s10_51 hE;try dsimp only at hE
     unfold Z91_j50 at hE;refine region ?_;refine S Mv ?_;refine SI ?_;refine S As (nil ?_);exact hK43 _ (n43,s10_51,(s11_45+1)) Weak.toA hE (Nat.lt_succ_self _)
    refine AWp.exit ?_;exact hK14 _ s10_44 Weak.toA hE
 rintro s10_15 hE;try dsimp only at hE
 unfold Z91_j14 at hE;refine seqJH KeepsT.nil (fun(z:(Sl Z4))=>[(10,.a (.d (Sl.d 2 Z4.c (some tk1) z)))]) (fun z=>(H.set tk1 (some (.tok 2 z.l.length)))) (fun z=>Z91_j16 z=some r) ?_ ?_
 ·intro K16 hK16;refine seqR (S As (nil ?_));refine block ?_;refine loopH (TA 5 (TA 7 (TA 8 KeepsT.nil))) (fun(z:Nat×(Sl Z4)×Nat)=>[(10,.a (.d (Sl.d 2 Z4.c (some tk1) z.2.1))),(14,.a (.d (.int .i64 ((z.2.2:Nat):Int))))]) (fun z=>(H.set tk1 (some (.tok 2 z.2.1.l.length)))) (fun z=>z.1) (fun z=>Z91_l20 a2 x4 x6 z.1 z.2.1 z.2.2=some r) ((x6.1.FArgs.l.length+1),s10_15,0) hE Weak.toA ?_;rintro ⟨n20,s10_21,s14_22⟩ hE K20 hK20
  try dsimp only at hE
  cases n20 with
  | zero=>cases hE
  | succ n20 =>
    rw [Z91_l20] at hE;refine seqK fun K23 hK23=>?_;refine seqR (S Mv (S Fv (S Ld ?_)));refine sLen (f:=Z7.c) (s:=x6.1.FArgs) (TK rfl) rfl rfl rfl rfl fun hL25=>?_;refine S BI (nil ?_);refine cE hE (fun hc26 hE=>?_) (fun hc26 hE=>?_)
    ·try dsimp only at hc26
     have hf26:=of_decide_eq_true hc26;refine sk hK23 ?_;clear hK23 K23;refine seqJH (TA 5 (TA 7 (TA 8 (TA 14 KeepsT.nil)))) (fun(z:(Sl Z4))=>[(10,.a (.d (Sl.d 2 Z4.c (some tk1) z)))]) (fun z=>(H.set tk1 (some (.tok 2 z.l.length)))) (fun z=>Z91_j27 s14_22 ((Z91_l20 a2 x4 x6 n20)) z=some r) ?_ ?_
     ·intro K27 hK27;refine block ?_;refine AWp.seqD (Sd Fv (Sd Ld (Sd Fv (Sd Ld (Sd Mv ?_)))));obtain⟨x30,gx30,hE⟩:=bO hE;refine Sd (ix Z7.c s14_22 gx30) (Sd Fv (Sd Ld ?_));obtain⟨x31,gx31,hE⟩:=bO hE;refine Scd rfl rfl (Z71_walk gx31) ?_;refine Sd Mv (Sd EX (Sd EX ?_));refine DOps.sB (TK rfl) rfl rfl ?_ (by repeat (first|exact Snoc.nil|apply Snoc.cons));refine DOps.sLn (storeLFA (TK rfl) rfl rfl rfl rfl rfl) ?_
      refine Sd As ?_;refine DOps.nil (by decide +kernel) ?_;refine freezeA 15 _ rfl (KA 5 (KA 7 (KA 8 (KA 10 (KA 14 (KA 16 Keeps.nil)))))) ?_;refine seqR (S Mv (S NB (S Mv (G0 Fv ?_))));refine G1 116 rfl Ld ?_;refine G0 Mv ?_;obtain⟨x33,gx33,hE⟩:=gO hE;refine gC rfl rfl (fun hC=>ungdA (k:=117) rfl (ungdA (k:=118) rfl (idxMn (f:=Z7.c) (n:=s14_22) (TK rfl) rfl (TK rfl) rfl rfl rfl (gx33 hC)))) rfl ?_
      refine G1 119 rfl Fv ?_;refine G1 120 rfl Ld ?_;obtain⟨x34,gx34,hE⟩:=gO hE;refine Gc1 121 rfl rfl rfl rfl rfl (fun hC=>Z54_walk (gx34 hC)) ?_;refine S PA (S Mv (G0 Fv ?_));refine G1 125 rfl Ld ?_;refine G0 Mv ?_;obtain⟨x35,gx35,hE⟩:=gO hE;refine gC rfl rfl (fun hC=>ungdA (k:=126) rfl (ungdA (k:=127) rfl (idxMn (f:=Z7.c) (n:=s14_22) (TK rfl) rfl (TK rfl) rfl rfl rfl (gx35 hC)))) rfl ?_;refine G1 128 rfl Fv ?_
      refine G1 129 rfl Ld ?_;refine G1 130 rfl NB ?_;refine S PA (nil ?_);refine cE hE (fun hc36 hE=>?_) (fun hc36 hE=>?_)
      ·refine region ?_;refine S Mv (S Mv ?_);obtain⟨x37,gx37,hE⟩:=bO hE;refine s0 (catM rfl rfl gx37) rfl ?_;refine S Fv (S Ld (S Mv ?_));obtain⟨x38,gx38,hE⟩:=bO hE;refine S (ix Z7.c s14_22 gx38) (S Fv (S Ld ?_));obtain⟨x39,gx39,hE⟩:=bO hE;refine s0 (catM rfl rfl gx39) rfl ?_;obtain⟨x40,gx40,hE⟩:=bO hE;refine s0 (catM rfl rfl gx40) rfl ?_;refine S BU (S BV ?_);obtain⟨x41,gx41,hE⟩:=bO hE;refine SH (am Z4.c (TK rfl) rfl (TK rfl) (TK rfl) gx41) ?_
       refine hq (H.set tk1 (some (.tok 2 x41.l.length))) ?_;refine S As (nil ?_);exact hK27 _ x41 Weak.toA hE
      refine AWp.skip ?_;exact hK27 _ s10_21 Weak.toA hE
     rintro s10_28 hE;try dsimp only at hE
     unfold Z91_j27 at hE;refine region ?_;refine S Mv ?_;refine SI ?_;refine S As (nil ?_);exact hK20 _ (n20,s10_28,(s14_22+1)) Weak.toA hE (Nat.lt_succ_self _)
    refine AWp.exit ?_;exact hK16 _ s10_21 Weak.toA hE
 rintro s10_17 hE;try dsimp only at hE
 unfold Z91_j16 at hE;refine seqR (S Mv (S As (nil ?_)));refine AWp.dropTok 6 rfl ?_;refine AWp.ret ?_;repeat (first|refine xBlock_ret ?_|refine xThen_ret ?_)
 obtain rfl:=Option.some.inj hE;refine retQ.retF H rfl ⟨rfl,rfl⟩ ?_
 first|exact Heap.sub_set htk1|(simp only [Heap.set_set]; exact Heap.sub_set htk1)
def Z96_j3  (s5_4:(Sl Z4)):Option (Sl Z4):=some s5_4
def Z96_j14 (s6_9:Nat) (k_next_7:(Sl Z4)->Nat->Option (Sl Z4)) (s5_15:(Sl Z4)):Option (Sl Z4):=k_next_7 s5_15 (s6_9+1)
def Z96_l30 (a0:TDoc) (a1:TDef) (s6_9:Nat) (x28:(TDef×Bool)) (k_next_7:(Sl Z4)->Nat->Option (Sl Z4)):Nat->(Sl Z4)->Nat->Option (Sl Z4)
 | 0,_,_=>none
 | n30+1,s5_31,s10_32=>bif (decide (((s10_32:Nat):Int)<((x28.1.FFields.l.length:Nat):Int))) then((x28.1.FFields.l[s10_32]?).bind fun x38=>(Z91 a0 a1 x38).bind fun x39=>(appC 24 s5_31 x39).bind fun x40=>(Z96_l30 a0 a1 s6_9 x28 k_next_7 n30) x40 (s10_32+1)) else(Z96_j14 s6_9 k_next_7 s5_31)
def Z96_j19 (a0:TDoc) (a1:TDef) (s5_8:(Sl Z4)) (s6_9:Nat) (k_next_7:(Sl Z4)->Nat->Option (Sl Z4)) (s7_20:Int):Option (Sl Z4):=bif (!decide (s7_20=(0:Int))) then((appC 24 s5_8 (⟨false,[(Z4.mk s7_20 a1.FName)]⟩:Sl Z4)).bind fun x25=>Z96_j14 s6_9 k_next_7 x25) else((a1.FImplements.l[s6_9]?).bind fun x27=>(Z70 a0 x27).bind fun x28=>Z96_l30 a0 a1 s6_9 x28 k_next_7 (x28.1.FFields.l.length+1) s5_8 0)
def Z96_l7 (a0:TDoc) (a1:TDef) :Nat->(Sl Z4)->Nat->Option (Sl Z4)
 | 0,_,_=>none
 | n7+1,s5_8,s6_9=>bif (decide (((s6_9:Nat):Int)<((a1.FImplements.l.length:Nat):Int))) then((a1.FImplements.l[s6_9]?).bind fun x17=>(Z94 a0 x17 (2:Int)).bind fun x18=>guardO ((decide (x18=(0:Int)))) (partC a1.FImplements none (some ((s6_9:Nat):Int))) (Sl.nil:Sl Bs) fun x42=>guardO ((decide (x18=(0:Int)))) (a1.FImplements.l[s6_9]?) ([]:Bs) fun x43=>guardO ((decide (x18=(0:Int)))) (Z93 x42 x43) false fun x44=>bif ((decide (x18=(0:Int)))&&x44) then(Z96_j19 a0 a1 s5_8 s6_9 ((Z96_l7 a0 a1 n7)) (7:Int)) else(Z96_j19 a0 a1 s5_8 s6_9 ((Z96_l7 a0 a1 n7)) x18)) else(Z96_j3   s5_8)
def Z96 (a0:TDoc) (a1:TDef):Option (Sl Z4):=Z96_l7 a0 a1 (a1.FImplements.l.length+1) (Sl.nil:Sl Z4) 0
theorem Z96_walk {a0:TDoc}{a1:TDef}{r:Sl Z4}(hE:Z96 a0 a1=some r) (H:Heap) :ACalls Tryz.prog 43 [.agg (TDoc.c a0),.agg (TDef.c a1)] H fun v h'=>v=.a (.d (Sl.d 2 Z4.c none r))/\h'=H:=by
 unfold Z96 at hE;refine ACalls.oW 76 [.tmp 4] Tryz.call43 Tryz.func43 ?_;refine AWp.tok 2 fun tk1 htk1=>?_;refine seqR (S BX (S BX ?_));refine s0 (assignNil (k':=2) rfl) rfl ?_;refine nil ?_;refine seqR (S As (nil ?_));refine AWp.nilTok 5 2 tk1 rfl hpG ?_;refine seqJH KeepsT.nil (fun(z:(Sl Z4))=>[(5,.a (.d (Sl.d 2 Z4.c (some tk1) z)))]) (fun z=>(H.set tk1 (some (.tok 2 z.l.length)))) (fun z=>Z96_j3 z=some r) ?_ ?_
 ·intro K3 hK3;refine seqR (S As (nil ?_));refine block ?_;refine loopH (TA 2 (TA 3 KeepsT.nil)) (fun(z:Nat×(Sl Z4)×Nat)=>[(5,.a (.d (Sl.d 2 Z4.c (some tk1) z.2.1))),(6,.a (.d (.int .i64 ((z.2.2:Nat):Int))))]) (fun z=>(H.set tk1 (some (.tok 2 z.2.1.l.length)))) (fun z=>z.1) (fun z=>Z96_l7 a0 a1 z.1 z.2.1 z.2.2=some r) ((a1.FImplements.l.length+1),(Sl.nil:Sl Z4),0) hE Weak.toA ?_;rintro ⟨n7,s5_8,s6_9⟩ hE K7 hK7
  try dsimp only at hE
  cases n7 with
  | zero=>cases hE
  | succ n7 =>
    rw [Z96_l7] at hE;refine seqK fun K10 hK10=>?_;refine seqR (S Mv (S Fv (S Ld ?_)));refine sLen (f:=strE) (s:=a1.FImplements) (TK rfl) rfl rfl rfl rfl fun hL12=>?_;refine S BI (nil ?_);refine cE hE (fun hc13 hE=>?_) (fun hc13 hE=>?_)
    ·try dsimp only at hc13
     have hf13:=of_decide_eq_true hc13;refine sk hK10 ?_;clear hK10 K10;refine seqJH (TA 2 (TA 3 (TA 6 KeepsT.nil))) (fun(z:(Sl Z4))=>[(5,.a (.d (Sl.d 2 Z4.c (some tk1) z)))]) (fun z=>(H.set tk1 (some (.tok 2 z.l.length)))) (fun z=>Z96_j14 s6_9 ((Z96_l7 a0 a1 n7)) z=some r) ?_ ?_
     ·intro K14 hK14;refine block ?_;refine AWp.seqD (Sd Ld (Sd Fv (Sd Ld (Sd Mv ?_))));obtain⟨x17,gx17,hE⟩:=bO hE;refine Sd (ix strE s6_9 gx17) (Sd Ld ?_);obtain⟨x18,gx18,hE⟩:=bO hE;refine Scd rfl rfl (Z94_walk gx18) ?_;refine Sd As ?_;refine DOps.nil (by decide +kernel) ?_;refine seqJH (TA 2 (TA 3 (TA 5 (TA 6 KeepsT.nil)))) (fun(z:Int)=>[(7,.a (.d (.int .i64 z)))]) (fun z=>(H.set tk1 (some (.tok 2 s5_8.l.length)))) (fun z=>Z96_j19 a0 a1 s5_8 s6_9 ((Z96_l7 a0 a1 n7)) z=some r) ?_ ?_
      ·intro K19 hK19;refine AWp.seqD (Sd Mv (Sd BI (Sd Mv (G0d Fv ?_))));refine G1d 28 rfl Ld ?_;refine G0d Mv ?_;obtain⟨x42,gx42,hE⟩:=gO hE;refine DOps.gC rfl rfl (fun hC=>ungdA (k:=29) rfl (ungdA (k:=30) rfl (partM (f:=strE) (l:=none) (r:=(some ((s6_9:Nat):Int))) (TK rfl) rfl (TK rfl) rfl rfl trivial rfl (gx42 hC)))) rfl ?_;refine G0d Fv ?_;refine G1d 32 rfl Ld ?_;refine G0d Mv ?_;obtain⟨x43,gx43,hE⟩:=gO hE
       refine DOps.gC rfl rfl (fun hC=>ungdA (k:=33) rfl (ungdA (k:=34) rfl (idxMn (f:=strE) (n:=s6_9) (TK rfl) rfl (TK rfl) rfl rfl rfl (gx43 hC)))) rfl ?_;refine G1d 35 rfl Ld ?_;obtain⟨x44,gx44,hE⟩:=gO hE;refine Gc2d 31 36 rfl rfl rfl rfl rfl rfl (fun hC=>Z93_walk (gx44 hC)) ?_;refine Sd PA ?_;refine DOps.nil (by decide +kernel) ?_;refine cE hE (fun hc45 hE=>?_) (fun hc45 hE=>?_)
       ·refine region ?_;refine S As (nil ?_);exact hK19 _ (7:Int) Weak.toA hE
       refine AWp.skip ?_;exact hK19 _ x18 Weak.toA hE
      rintro s7_20 hE;try dsimp only at hE
      unfold Z96_j19 at hE;refine seqK fun K21 hK21=>?_;refine seqR (S Mv (S BI (nil ?_)));refine cE hE (fun hc23 hE=>?_) (fun hc23 hE=>?_)
      ·refine seqR (S Mv (S Mv (S Fv (S Ld (S BU (S BV ?_))))));obtain⟨x25,gx25,hE⟩:=bO hE;refine SH (am Z4.c (TK rfl) rfl (TK rfl) (TK rfl) gx25) ?_;refine hq (H.set tk1 (some (.tok 2 x25.l.length))) ?_;refine S As (nil ?_);refine AWp.exit ?_;exact hK14 _ x25 Weak.toA hE
      refine sk hK21 ?_;clear hK21 K21;refine AWp.seqD (Sd Ld (Sd Fv (Sd Ld (Sd Mv ?_))));obtain⟨x27,gx27,hE⟩:=bO hE;refine Sd (ix strE s6_9 gx27) (Sd Ld ?_);obtain⟨x28,gx28,hE⟩:=bO hE;refine Scd rfl rfl (Z70_walk gx28) ?_;refine Sd Mv (Sd EX (Sd EX ?_));refine DOps.sB (TK rfl) rfl rfl ?_ (by repeat (first|exact Snoc.nil|apply Snoc.cons));refine DOps.sLn (storeLFA (TK rfl) rfl rfl rfl rfl rfl) ?_;refine Sd As ?_
      refine DOps.nil (by decide +kernel) ?_;refine freezeA 8 _ rfl (KA 2 (KA 3 (KA 5 (KA 6 Keeps.nil)))) ?_;refine seqR (S As (nil ?_));refine block ?_;refine loopH (TA 2 (TA 3 (TA 6 (TA 8 KeepsT.nil)))) (fun(z:Nat×(Sl Z4)×Nat)=>[(5,.a (.d (Sl.d 2 Z4.c (some tk1) z.2.1))),(10,.a (.d (.int .i64 ((z.2.2:Nat):Int))))]) (fun z=>(H.set tk1 (some (.tok 2 z.2.1.l.length)))) (fun z=>z.1) (fun z=>Z96_l30 a0 a1 s6_9 x28 ((Z96_l7 a0 a1 n7)) z.1 z.2.1 z.2.2=some r) ((x28.1.FFields.l.length+1),s5_8,0) hE Weak.toA ?_
      rintro ⟨n30,s5_31,s10_32⟩ hE K30 hK30;try dsimp only at hE
      cases n30 with
      | zero=>cases hE
      | succ n30 =>
        rw [Z96_l30] at hE;refine seqK fun K33 hK33=>?_;refine seqR (S Mv (S Fv (S Ld ?_)));refine sLen (f:=Z5.c) (s:=x28.1.FFields) (TK rfl) rfl rfl rfl rfl fun hL35=>?_;refine S BI (nil ?_);refine cE hE (fun hc36 hE=>?_) (fun hc36 hE=>?_)
        ·try dsimp only at hc36
         have hf36:=of_decide_eq_true hc36;refine sk hK33 ?_;clear hK33 K33;refine seqK fun K37 hK37=>?_;refine block ?_;refine AWp.draw rfl ?_;refine Sd Mv (Sd Ld (Sd Ld (Sd Fv (Sd Ld (Sd Mv ?_)))));obtain⟨x38,gx38,hE⟩:=bO hE;refine Sd (ix Z5.c s10_32 gx38) (Sd Ld ?_);obtain⟨x39,gx39,hE⟩:=bO hE;refine Scd rfl rfl (Z91_walk gx39) ?_;obtain⟨x40,gx40,hE⟩:=bO hE;refine DOps.sH (appM (f:=Z4.c) (TK rfl) rfl (TK rfl) (TK rfl) ⟨_,rfl⟩ rfl rfl (by decide) rfl rfl rfl rfl hpG rfl gx40) rfl ?_
         refine DOps.Dh (H.set tk1 (some (.tok 2 x40.l.length))) ?_;refine Sd As ?_;refine DOps.nil (by decide +kernel) ?_;refine hK37 _ ?_;clear hK37 K37;refine region ?_;refine S Mv ?_;refine SI ?_;refine S As (nil ?_);exact hK30 _ (n30,x40,(s10_32+1)) Weak.toA hE (Nat.lt_succ_self _)
        refine AWp.exit ?_;exact hK14 _ s5_31 Weak.toA hE
     rintro s5_15 hE;try dsimp only at hE
     unfold Z96_j14 at hE;refine region ?_;refine S Mv ?_;refine SI ?_;refine S As (nil ?_);exact hK7 _ (n7,s5_15,(s6_9+1)) Weak.toA hE (Nat.lt_succ_self _)
    refine AWp.exit ?_;exact hK3 _ s5_8 Weak.toA hE
 rintro s5_4 hE;try dsimp only at hE
 unfold Z96_j3 at hE;refine seqR (S Mv (S As (nil ?_)));refine AWp.dropTok 4 rfl ?_;refine AWp.ret ?_;repeat (first|refine xBlock_ret ?_|refine xThen_ret ?_)
 obtain rfl:=Option.some.inj hE;refine retQ.retF H rfl ⟨rfl,rfl⟩ ?_
 first|exact Heap.sub_set htk1|(simp only [Heap.set_set]; exact Heap.sub_set htk1)
def Z97_j3  (s5_4:(Sl Z4)):Option (Sl Z4):=some s5_4
def Z97_j14 (s6_9:Nat) (k_next_7:(Sl Z4)->Nat->Option (Sl Z4)) (s5_15:(Sl Z4)):Option (Sl Z4):=k_next_7 s5_15 (s6_9+1)
def Z97_j20 (a1:TDef) (s5_8:(Sl Z4)) (s6_9:Nat) (x17:Z8) (k_next_7:(Sl Z4)->Nat->Option (Sl Z4)) (s8_21:Int):Option (Sl Z4):=bif (!decide (s8_21=(0:Int))) then((catC a1.FName ([46]:Bs)).bind fun x24=>(catC x24 x17.FName).bind fun x25=>(appC 24 s5_8 (⟨false,[(Z4.mk s8_21 x25)]⟩:Sl Z4)).bind fun x26=>Z97_j14 s6_9 k_next_7 x26) else(Z97_j14 s6_9 k_next_7 s5_8)
def Z97_l7 (a0:TDoc) (a1:TDef) :Nat->(Sl Z4)->Nat->Option (Sl Z4)
 | 0,_,_=>none
 | n7+1,s5_8,s6_9=>bif (decide (((s6_9:Nat):Int)<((a1.FMembers.l.length:Nat):Int))) then((a1.FMembers.l[s6_9]?).bind fun x17=>(Z94 a0 x17.FName (1:Int)).bind fun x19=>guardO ((decide (x19=(0:Int)))) (partC a1.FMembers none (some ((s6_9:Nat):Int))) (Sl.nil:Sl Z8) fun x28=>guardO ((decide (x19=(0:Int)))) (Z95 (TDef.mk (0:Int) ([]:Bs) (Sl.nil:Sl Bs) (Sl.nil:Sl TDir) (Sl.nil:Sl Z5) x28 (Sl.nil:Sl Z7)) x17.FName) false fun x29=>bif ((decide (x19=(0:Int)))&&x29) then(Z97_j20 a1 s5_8 s6_9 x17 ((Z97_l7 a0 a1 n7)) (7:Int)) else(Z97_j20 a1 s5_8 s6_9 x17 ((Z97_l7 a0 a1 n7)) x19)) else(Z97_j3   s5_8)
def Z97 (a0:TDoc) (a1:TDef):Option (Sl Z4):=Z97_l7 a0 a1 (a1.FMembers.l.length+1) (Sl.nil:Sl Z4) 0
theorem Z97_walk {a0:TDoc}{a1:TDef}{r:Sl Z4}(hE:Z97 a0 a1=some r) (H:Heap) :ACalls Tryz.prog 44 [.agg (TDoc.c a0),.agg (TDef.c a1)] H fun v h'=>v=.a (.d (Sl.d 2 Z4.c none r))/\h'=H:=by
 unfold Z97 at hE;refine ACalls.oW 49 [.tmp 4] Tryz.call44 Tryz.func44 ?_;refine AWp.tok 2 fun tk1 htk1=>?_;refine seqR (S BX (S BX ?_));refine s0 (assignNil (k':=2) rfl) rfl ?_;refine nil ?_;refine seqR (S As (nil ?_));refine AWp.nilTok 5 2 tk1 rfl hpG ?_;refine seqJH KeepsT.nil (fun(z:(Sl Z4))=>[(5,.a (.d (Sl.d 2 Z4.c (some tk1) z)))]) (fun z=>(H.set tk1 (some (.tok 2 z.l.length)))) (fun z=>Z97_j3 z=some r) ?_ ?_
 ·intro K3 hK3;refine seqR (S As (nil ?_));refine block ?_;refine loopH (TA 2 (TA 3 KeepsT.nil)) (fun(z:Nat×(Sl Z4)×Nat)=>[(5,.a (.d (Sl.d 2 Z4.c (some tk1) z.2.1))),(6,.a (.d (.int .i64 ((z.2.2:Nat):Int))))]) (fun z=>(H.set tk1 (some (.tok 2 z.2.1.l.length)))) (fun z=>z.1) (fun z=>Z97_l7 a0 a1 z.1 z.2.1 z.2.2=some r) ((a1.FMembers.l.length+1),(Sl.nil:Sl Z4),0) hE Weak.toA ?_;rintro ⟨n7,s5_8,s6_9⟩ hE K7 hK7
  try dsimp only at hE
  cases n7 with
  | zero=>cases hE
  | succ n7 =>
    rw [Z97_l7] at hE;refine seqK fun K10 hK10=>?_;refine seqR (S Mv (S Fv (S Ld ?_)));refine sLen (f:=Z8.c) (s:=a1.FMembers) (TK rfl) rfl rfl rfl rfl fun hL12=>?_;refine S BI (nil ?_);refine cE hE (fun hc13 hE=>?_) (fun hc13 hE=>?_)
    ·try dsimp only at hc13
     have hf13:=of_decide_eq_true hc13;refine sk hK10 ?_;clear hK10 K10;refine seqJH (TA 2 (TA 3 (TA 6 KeepsT.nil))) (fun(z:(Sl Z4))=>[(5,.a (.d (Sl.d 2 Z4.c (some tk1) z)))]) (fun z=>(H.set tk1 (some (.tok 2 z.l.length)))) (fun z=>Z97_j14 s6_9 ((Z97_l7 a0 a1 n7)) z=some r) ?_ ?_
     ·intro K14 hK14;refine block ?_;refine seqR (S Fv (S Ld (S Mv ?_)));obtain⟨x17,gx17,hE⟩:=bO hE;refine S (ix Z8.c s6_9 gx17) (S Fv (S Ld (S As (nil ?_))));refine seqR (S Ld (S Mv ?_));obtain⟨x19,gx19,hE⟩:=bO hE;refine Sc rfl rfl (Z94_walk gx19) ?_;refine S As (nil ?_);refine seqJH (TA 2 (TA 3 (TA 5 (TA 6 (TA 7 KeepsT.nil))))) (fun(z:Int)=>[(8,.a (.d (.int .i64 z)))]) (fun z=>(H.set tk1 (some (.tok 2 s5_8.l.length)))) (fun z=>Z97_j20 a1 s5_8 s6_9 x17 ((Z97_l7 a0 a1 n7)) z=some r) ?_ ?_
      ·intro K20 hK20;refine seqR (S Mv (S BI (S Mv (G0 Fv ?_))));refine G1 28 rfl Ld ?_;refine G0 Mv ?_;obtain⟨x28,gx28,hE⟩:=gO hE;refine gC rfl rfl (fun hC=>ungdA (k:=29) rfl (ungdA (k:=30) rfl (partM (f:=Z8.c) (l:=none) (r:=(some ((s6_9:Nat):Int))) (TK rfl) rfl (TK rfl) rfl rfl trivial rfl (gx28 hC)))) rfl ?_;refine G1 31 rfl BU ?_;refine G0 Mv ?_;obtain⟨x29,gx29,hE⟩:=gO hE;refine Gc2 32 33 rfl rfl rfl rfl rfl rfl (fun hC=>Z95_walk (gx29 hC)) ?_
       refine S PA (nil ?_);refine cE hE (fun hc30 hE=>?_) (fun hc30 hE=>?_)
       ·refine region ?_;refine S As (nil ?_);exact hK20 _ (7:Int) Weak.toA hE
       refine AWp.skip ?_;exact hK20 _ x19 Weak.toA hE
      rintro s8_21 hE;try dsimp only at hE
      unfold Z97_j20 at hE;refine seqR (S Mv (S BI (nil ?_)));refine cE hE (fun hc23 hE=>?_) (fun hc23 hE=>?_)
      ·refine region ?_;refine S Mv (S Mv (S Fv (S Ld ?_)));obtain⟨x24,gx24,hE⟩:=bO hE;refine s0 (catM rfl rfl gx24) rfl ?_;refine S Mv ?_;obtain⟨x25,gx25,hE⟩:=bO hE;refine s0 (catM rfl rfl gx25) rfl ?_;refine S BU (S BV ?_);obtain⟨x26,gx26,hE⟩:=bO hE;refine SH (am Z4.c (TK rfl) rfl (TK rfl) (TK rfl) gx26) ?_;refine hq (H.set tk1 (some (.tok 2 x26.l.length))) ?_;refine S As (nil ?_);exact hK14 _ x26 Weak.toA hE
      refine AWp.skip ?_;exact hK14 _ s5_8 Weak.toA hE
     rintro s5_15 hE;try dsimp only at hE
     unfold Z97_j14 at hE;refine region ?_;refine S Mv ?_;refine SI ?_;refine S As (nil ?_);exact hK7 _ (n7,s5_15,(s6_9+1)) Weak.toA hE (Nat.lt_succ_self _)
    refine AWp.exit ?_;exact hK3 _ s5_8 Weak.toA hE
 rintro s5_4 hE;try dsimp only at hE
 unfold Z97_j3 at hE;refine seqR (S Mv (S As (nil ?_)));refine AWp.dropTok 4 rfl ?_;refine AWp.ret ?_;repeat (first|refine xBlock_ret ?_|refine xThen_ret ?_)
 obtain rfl:=Option.some.inj hE;refine retQ.retF H rfl ⟨rfl,rfl⟩ ?_
 first|exact Heap.sub_set htk1|(simp only [Heap.set_set]; exact Heap.sub_set htk1)
end Go.Proofs

namespace Go.Proofs
open Go Go.Ab
open AOps Cert AWp Keeps KeepsT
variable {lou:Lou}
def Z87_j3  (s3_4:(Sl Z4)):Option (Sl Z4):=some s3_4
def Z87_j14 (s4_9:Nat) (k_next_7:(Sl Z4)->Nat->Option (Sl Z4)) (s3_15:(Sl Z4)):Option (Sl Z4):=k_next_7 s3_15 (s4_9+1)
def Z87_l7 (a0:TDoc) :Nat->(Sl Z4)->Nat->Option (Sl Z4)
 | 0,_,_=>none
 | n7+1,s3_8,s4_9=>bif (decide (((s4_9:Nat):Int)<((a0.FDefs.l.length:Nat):Int))) then((a0.FDefs.l[s4_9]?).bind fun x17=>bif (decide (x17.FKind=(1:Int))) then((a0.FDefs.l[s4_9]?).bind fun x20=>(Z96 a0 x20).bind fun x21=>(appC 24 s3_8 x21).bind fun x22=>Z87_j14 s4_9 ((Z87_l7 a0 n7)) x22) else(bif (decide (x17.FKind=(3:Int))) then((a0.FDefs.l[s4_9]?).bind fun x25=>(Z97 a0 x25).bind fun x26=>(appC 24 s3_8 x26).bind fun x27=>Z87_j14 s4_9 ((Z87_l7 a0 n7)) x27) else(Z87_j14 s4_9 ((Z87_l7 a0 n7)) s3_8))) else(Z87_j3   s3_8)
def Z87 (a0:TDoc):Option (Sl Z4):=Z87_l7 a0 (a0.FDefs.l.length+1) (Sl.nil:Sl Z4) 0
theorem Z87_walk {a0:TDoc}{r:Sl Z4}(hE:Z87 a0=some r) (H:Heap) :ACalls Tryz.prog 16 [.agg (TDoc.c a0)] H fun v h'=>v=.a (.d (Sl.d 2 Z4.c none r))/\h'=H:=by
 unfold Z87 at hE;refine ACalls.oW 41 [.tmp 2] Tryz.call16 Tryz.func16 ?_;refine AWp.tok 2 fun tk1 htk1=>?_;refine seqR (S BX ?_);refine s0 (assignNil (k':=2) rfl) rfl ?_;refine nil ?_;refine seqR (S As (nil ?_));refine AWp.nilTok 3 2 tk1 rfl hpG ?_;refine seqJH KeepsT.nil (fun(z:(Sl Z4))=>[(3,.a (.d (Sl.d 2 Z4.c (some tk1) z)))]) (fun z=>(H.set tk1 (some (.tok 2 z.l.length)))) (fun z=>Z87_j3 z=some r) ?_ ?_
 ·intro K3 hK3;refine seqR (S As (nil ?_));refine block ?_;refine loopH (TA 1 KeepsT.nil) (fun(z:Nat×(Sl Z4)×Nat)=>[(3,.a (.d (Sl.d 2 Z4.c (some tk1) z.2.1))),(4,.a (.d (.int .i64 ((z.2.2:Nat):Int))))]) (fun z=>(H.set tk1 (some (.tok 2 z.2.1.l.length)))) (fun z=>z.1) (fun z=>Z87_l7 a0 z.1 z.2.1 z.2.2=some r) ((a0.FDefs.l.length+1),(Sl.nil:Sl Z4),0) hE Weak.toA ?_;rintro ⟨n7,s3_8,s4_9⟩ hE K7 hK7;try dsimp only at hE
  cases n7 with
  | zero=>cases hE
  | succ n7 =>
    rw [Z87_l7] at hE;refine seqK fun K10 hK10=>?_;refine seqR (S Mv (S Fv (S Ld ?_)));refine sLen (f:=TDef.c) (s:=a0.FDefs) (TK rfl) rfl rfl rfl rfl fun hL12=>?_;refine S BI (nil ?_);refine cE hE (fun hc13 hE=>?_) (fun hc13 hE=>?_)
    ·try dsimp only at hc13
     have hf13:=of_decide_eq_true hc13;refine sk hK10 ?_;clear hK10 K10;refine seqJH (TA 1 (TA 4 KeepsT.nil)) (fun(z:(Sl Z4))=>[(3,.a (.d (Sl.d 2 Z4.c (some tk1) z)))]) (fun z=>(H.set tk1 (some (.tok 2 z.l.length)))) (fun z=>Z87_j14 s4_9 ((Z87_l7 a0 n7)) z=some r) ?_ ?_
     ·intro K14 hK14;refine block ?_;refine seqR (S Fv (S Ld (S Mv ?_)));obtain⟨x17,gx17,hE⟩:=bO hE;refine S (ix TDef.c s4_9 gx17) (S Fv (S Ld (nil ?_)));refine block ?_;refine seqR (S BI (S As (nil ?_)));refine cE hE (fun hc19 hE=>?_) (fun hc19 hE=>?_)
      ·refine AWp.draw rfl ?_;refine Sd Mv (Sd Ld (Sd Fv (Sd Ld (Sd Mv ?_))));obtain⟨x20,gx20,hE⟩:=bO hE;refine Sd (ix TDef.c s4_9 gx20) (Sd Ld ?_);obtain⟨x21,gx21,hE⟩:=bO hE;refine Scd rfl rfl (Z96_walk gx21) ?_;obtain⟨x22,gx22,hE⟩:=bO hE;refine DOps.sH (appM (f:=Z4.c) (TK rfl) rfl (TK rfl) (TK rfl) ⟨_,rfl⟩ rfl rfl (by decide) rfl rfl rfl rfl hpG rfl gx22) rfl ?_;refine DOps.Dh (H.set tk1 (some (.tok 2 x22.l.length))) ?_
       refine Sd As ?_;refine DOps.nil (by decide +kernel) ?_;exact hK14 _ x22 Weak.toA hE
      refine seqR (S BI (S As (nil ?_)));refine cE hE (fun hc24 hE=>?_) (fun hc24 hE=>?_)
      ·refine AWp.draw rfl ?_;refine Sd Mv (Sd Ld (Sd Fv (Sd Ld (Sd Mv ?_))));obtain⟨x25,gx25,hE⟩:=bO hE;refine Sd (ix TDef.c s4_9 gx25) (Sd Ld ?_);obtain⟨x26,gx26,hE⟩:=bO hE;refine Scd rfl rfl (Z97_walk gx26) ?_;obtain⟨x27,gx27,hE⟩:=bO hE;refine DOps.sH (appM (f:=Z4.c) (TK rfl) rfl (TK rfl) (TK rfl) ⟨_,rfl⟩ rfl rfl (by decide) rfl rfl rfl rfl hpG rfl gx27) rfl ?_;refine DOps.Dh (H.set tk1 (some (.tok 2 x27.l.length))) ?_
       refine Sd As ?_;refine DOps.nil (by decide +kernel) ?_;exact hK14 _ x27 Weak.toA hE
      refine AWp.skip ?_;exact hK14 _ s3_8 Weak.toA hE
     rintro s3_15 hE;try dsimp only at hE
     unfold Z87_j14 at hE;refine region ?_;refine S Mv ?_;refine SI ?_;refine S As (nil ?_);exact hK7 _ (n7,s3_15,(s4_9+1)) Weak.toA hE (Nat.lt_succ_self _)
    refine AWp.exit ?_;exact hK3 _ s3_8 Weak.toA hE
 rintro s3_4 hE;try dsimp only at hE
 unfold Z87_j3 at hE;refine seqR (S Mv (S As (nil ?_)));refine AWp.dropTok 2 rfl ?_;refine AWp.ret ?_;repeat (first|refine xBlock_ret ?_|refine xThen_ret ?_)
 obtain rfl:=Option.some.inj hE;refine retQ.retF H rfl ⟨rfl,rfl⟩ ?_
 first|exact Heap.sub_set htk1|(simp only [Heap.set_set]; exact Heap.sub_set htk1)
def Z48_j3  (s3_4:(Sl Z10)):Option (Sl Z10):=some s3_4
def Z48_l7 (a0:(Sl Z10)) (k_rec_196:Z10->Option Z10):Nat->(Sl Z10)->Nat->Option (Sl Z10)
 | 0,_,_=>none
 | n7+1,s3_8,s4_9=>bif (decide (((s4_9:Nat):Int)<((a0.l.length:Nat):Int))) then((a0.l[s4_9]?).bind fun x15=>(k_rec_196 x15).bind fun x16=>(appC 80 s3_8 (⟨false,[x16]⟩:Sl Z10)).bind fun x17=>(Z48_l7 a0 k_rec_196 n7) x17 (s4_9+1)) else(Z48_j3   s3_8)
mutual
def r02_Copy_n:Nat->Z10->Option Z10
 | 0,_=>none
 | n+1,a0=>((Z48_n n) a0.FItems).bind fun x3=>(appC 16 (⟨false,[]⟩:Sl Bs) a0.FKeys).bind fun x4=>some (Z10.mk a0.FKind a0.FInt a0.FText x3.nl x3.l x4)
def Z48_n:Nat->(Sl Z10)->Option (Sl Z10)
 | 0,_=>none
 | n+1,a0=>Z48_l7 a0 (r02_Copy_n n) (a0.l.length+1) (Sl.nil:Sl Z10) 0
end
theorem r02_Copy_step (n:Nat) (ih_196:∀{a0 r:Z10},r02_Copy_n n a0=some r->∀(H:Heap),ACalls Tryz.prog 196 [.agg (Z10.c a0)] H fun v h'=>v=.a (.agg (Z10.c r))/\h'=H) (ih_216:∀{a0:Sl Z10}{w0:Option Nat}{r:Sl Z10},Z48_n n a0=some r->∀(H:Heap),ACalls Tryz.prog 216 [.d (Sl.d 5 Z10.c w0 a0)] H fun v h'=>v=.a (.d (Sl.d 5 Z10.c none r))/\h'=H):∀{a0 r:Z10},r02_Copy_n (n+1) a0=some r->∀(H:Heap),ACalls Tryz.prog 196 [.agg (Z10.c a0)] H fun v h'=>v=.a (.agg (Z10.c r))/\h'=H:=by
 intro a0   r hE H ;rw [r02_Copy_n] at hE;refine ACalls.oW 17 [.cell 2 86] Tryz.call196 Tryz.func196 ?_;refine seqR (S BX ?_);refine Sl ?_;refine nil ?_;refine AWp.seqD (Sd Fv (Sd Ld (Sd Fv (Sd Ld (Sd Fv (Sd Ld (Sd Fv ?_)))))));refine DOps.s0 (loadV (TK rfl) rfl rfl (congrArg (fun x=>some (A.d x)) (Z10.FItemsD_eq _))) rfl ?_;obtain⟨x3,gx3,hE⟩:=bO hE;refine Scd rfl rfl (ih_216 gx3) ?_;refine DOps.s0 (buildSliceF (TK rfl) rfl (TK rfl) rfl rfl rfl rfl rfl rfl) rfl ?_
 refine Sd Fv (Sd Ld ?_);obtain⟨x4,gx4,hE⟩:=bO hE;refine DOps.s0 (appFM (f:=strE) (TK rfl) rfl (TK rfl) (TK rfl) ⟨_,rfl⟩ rfl rfl (by decide) rfl rfl rfl (by intro q h; cases h<;>decide) rfl rfl gx4) rfl ?_;refine Sd BU ?_;refine DOps.sLn (storeLFA (TK rfl) rfl rfl rfl rfl rfl) ?_;refine DOps.nil (by decide +kernel) ?_;refine AWp.relocal 0 (Z10.c (Z10.mk a0.FKind a0.FInt a0.FText x3.nl x3.l x4)) rfl (fun j w cs hh hx=>by rw [Z10.cu_eq]; exact hx) ?_
 exact rt hE
theorem Z48_step (n:Nat) (ih_196:∀{a0 r:Z10},r02_Copy_n n a0=some r->∀(H:Heap),ACalls Tryz.prog 196 [.agg (Z10.c a0)] H fun v h'=>v=.a (.agg (Z10.c r))/\h'=H) (ih_216:∀{a0:Sl Z10}{w0:Option Nat}{r:Sl Z10},Z48_n n a0=some r->∀(H:Heap),ACalls Tryz.prog 216 [.d (Sl.d 5 Z10.c w0 a0)] H fun v h'=>v=.a (.d (Sl.d 5 Z10.c none r))/\h'=H):∀{a0:Sl Z10}{w0:Option Nat}{r:Sl Z10},Z48_n (n+1) a0=some r->∀(H:Heap),ACalls Tryz.prog 216 [.d (Sl.d 5 Z10.c w0 a0)] H fun v h'=>v=.a (.d (Sl.d 5 Z10.c none r))/\h'=H:=by
 intro a0 w0  r hE H ;rw [Z48_n] at hE;refine ACalls.oW 20 [.tmp 2] Tryz.call216 Tryz.func216 ?_;refine AWp.tok 5 fun tk1 htk1=>?_;refine seqR ?_;refine s0 (assignNil (k':=5) rfl) rfl ?_;refine nil ?_;refine seqR (S As (nil ?_));refine AWp.nilTok 3 5 tk1 rfl hpG ?_;refine seqJH KeepsT.nil (fun(z:(Sl Z10))=>[(3,.a (.d (Sl.d 5 Z10.c (some tk1) z)))]) (fun z=>(H.set tk1 (some (.tok 5 z.l.length)))) (fun z=>Z48_j3 z=some r) ?_ ?_
 ·intro K3 hK3;refine seqR (S As (nil ?_));refine block ?_;refine loopH (TA 0 KeepsT.nil) (fun(z:Nat×(Sl Z10)×Nat)=>[(3,.a (.d (Sl.d 5 Z10.c (some tk1) z.2.1))),(4,.a (.d (.int .i64 ((z.2.2:Nat):Int))))]) (fun z=>(H.set tk1 (some (.tok 5 z.2.1.l.length)))) (fun z=>z.1) (fun z=>Z48_l7 a0 (r02_Copy_n n) z.1 z.2.1 z.2.2=some r) ((a0.l.length+1),(Sl.nil:Sl Z10),0) hE Weak.toA ?_;rintro ⟨n7,s3_8,s4_9⟩ hE K7 hK7
  try dsimp only at hE
  cases n7 with
  | zero=>cases hE
  | succ n7 =>
    rw [Z48_l7] at hE;refine seqK fun K10 hK10=>?_;refine seqR (S Mv (S Mv ?_));refine sLen (f:=Z10.c) (s:=a0) (TK rfl) rfl rfl rfl rfl fun hL12=>?_;refine S BI (nil ?_);refine cE hE (fun hc13 hE=>?_) (fun hc13 hE=>?_)
    ·try dsimp only at hc13
     have hf13:=of_decide_eq_true hc13;refine sk hK10 ?_;clear hK10 K10;refine seqK fun K14 hK14=>?_;refine block ?_;refine region ?_;refine S Mv (S Mv (S Mv ?_));obtain⟨x15,gx15,hE⟩:=bO hE;refine S (ix Z10.c s4_9 gx15) (S Ld ?_);obtain⟨x16,gx16,hE⟩:=bO hE;refine Sc rfl rfl (ih_196 gx16) ?_;refine S BV ?_;obtain⟨x17,gx17,hE⟩:=bO hE;refine SH (am Z10.c (TK rfl) rfl (TK rfl) (TK rfl) gx17) ?_;refine hq (H.set tk1 (some (.tok 5 x17.l.length))) ?_
     refine S As (nil ?_);refine hK14 _ ?_;clear hK14 K14;refine region ?_;refine S Mv ?_;refine SI ?_;refine S As (nil ?_);exact hK7 _ (n7,x17,(s4_9+1)) Weak.toA hE (Nat.lt_succ_self _)
    refine AWp.exit ?_;exact hK3 _ s3_8 Weak.toA hE
 rintro s3_4 hE;try dsimp only at hE
 unfold Z48_j3 at hE;refine seqR (S Mv (S As (nil ?_)));refine AWp.dropTok 2 rfl ?_;refine AWp.ret ?_;repeat (first|refine xBlock_ret ?_|refine xThen_ret ?_)
 obtain rfl:=Option.some.inj hE;refine retQ.retF H rfl ⟨rfl,rfl⟩ ?_
 first|exact Heap.sub_set htk1|(simp only [Heap.set_set]; exact Heap.sub_set htk1)
theorem r02_Copy_all:∀(n:Nat),(∀{a0 r:Z10},r02_Copy_n n a0=some r->∀(H:Heap),ACalls Tryz.prog 196 [.agg (Z10.c a0)] H fun v h'=>v=.a (.agg (Z10.c r))/\h'=H)/\(∀{a0:Sl Z10}{w0:Option Nat}{r:Sl Z10},Z48_n n a0=some r->∀(H:Heap),ACalls Tryz.prog 216 [.d (Sl.d 5 Z10.c w0 a0)] H fun v h'=>v=.a (.d (Sl.d 5 Z10.c none r))/\h'=H)
 | 0=>⟨fun hE=>by first|cases hE|(rw [r02_Copy_n] at hE; cases hE),fun hE=>by first|cases hE|(rw [Z48_n] at hE; cases hE)⟩
 | n+1=>⟨r02_Copy_step n (r02_Copy_all n).1 (r02_Copy_all n).2,Z48_step n (r02_Copy_all n).1 (r02_Copy_all n).2⟩
def r02_Copy (a0:Z10):Option Z10:=r02_Copy_n F0 a0
theorem r02_Copy_walk {a0 r:Z10}(hE:r02_Copy a0=some r) (H:Heap) :ACalls Tryz.prog 196 [.agg (Z10.c a0)] H fun v h'=>v=.a (.agg (Z10.c r))/\h'=H:=(r02_Copy_all F0).1 hE H 
def Z45_j6  (y7_l0:Z10):Option (Z10×Bool):=some ((Z10.mk (0:Int) (0:Int) ([]:Bs) true ([]) (Sl.nil:Sl Bs)),false)
def Z45_l10 (a0:Z10) (a1:Bs) :Nat->Nat->Z10->Option (Z10×Bool)
 | 0,_,_=>none
 | n10+1,s6_11,y12_l0=>bif (decide (((s6_11:Nat):Int)<((a0.FKeys.l.length:Nat):Int))) then((a0.FKeys.l[s6_11]?).bind fun x19=>bif ((x19==a1)) then(bif (decide (((a0.FItems.l.length:Nat):Int)<=((s6_11:Nat):Int))) then(some ((Z10.mk (0:Int) (0:Int) ([]:Bs) true ([]) (Sl.nil:Sl Bs)),false)) else((a0.FItems.l[s6_11]?).bind fun x27=>(r02_Copy x27).bind fun x28=>some (x28,true))) else((Z45_l10 a0 a1 n10) (s6_11+1) y12_l0)) else(Z45_j6   y12_l0)
def Z45 (a0:Z10) (a1:Bs):Option (Z10×Bool):=bif (!decide (a0.FKind=(6:Int))) then(some ((Z10.mk (0:Int) (0:Int) ([]:Bs) true ([]) (Sl.nil:Sl Bs)),false)) else(Z45_l10 a0 a1 (a0.FKeys.l.length+1) 0 Z10.zero)
theorem Z45_walk {a0:Z10}{a1:Bs}{r:Z10×Bool}(hE:Z45 a0 a1=some r) (H:Heap) :ACalls Tryz.prog 177 [.agg (Z10.c a0),.d (.str a1)] H fun v h'=>v=.tup [.agg (Z10.c r.1),.d (.bool r.2)]/\h'=H:=by
 unfold Z45 at hE;refine ACalls.oW 38 [.cell 4 86,.tmp 5] Tryz.call177 Tryz.func177 ?_;refine seqR (S BX ?_);refine Sl ?_;refine S As (nil ?_);refine seqK fun K2 hK2=>?_;refine seqR (S Fv (S Ld (S BI (nil ?_))));refine cE hE (fun hc4 hE=>?_) (fun hc4 hE=>?_)
 ·refine seqR (S BU ?_);refine Sf ?_;refine S As (nil ?_);exact rt hE
 refine sk hK2 ?_;clear hK2 K2;refine seqJ (TA 4 KeepsT.nil) (fun(z:Z10)=>[]) (fun z=>[Z10.c z]) (fun z=>H) (fun z=>Z45_j6 z=some r) ?_ ?_
 ·intro K6 hK6;refine seqR (S As (nil ?_));refine block ?_;refine loopO (TA 1 (TA 2 (TA 4 KeepsT.nil))) (fun(z:Nat×Nat×Z10)=>[(6,.a (.d (.int .i64 ((z.2.1:Nat):Int))))]) (fun z=>[Z10.c z.2.2]) (fun z=>H) (fun z=>z.1) (fun z=>Z45_l10 a0 a1 z.1 z.2.1 z.2.2=some r) ((a0.FKeys.l.length+1),0,Z10.zero) hE Weak.toA ?_;rintro ⟨n10,s6_11,y12_l0⟩ hE K10 hK10;try dsimp only at hE
  cases n10 with
  | zero=>cases hE
  | succ n10 =>
    rw [Z45_l10] at hE;refine seqK fun K13 hK13=>?_;refine seqR (S Mv (S Fv (S Ld ?_)));refine sLen (f:=strE) (s:=a0.FKeys) (TK rfl) rfl rfl rfl rfl fun hL15=>?_;refine S BI (nil ?_);refine cE hE (fun hc16 hE=>?_) (fun hc16 hE=>?_)
    ·try dsimp only at hc16
     have hf16:=of_decide_eq_true hc16;refine sk hK13 ?_;clear hK13 K13;refine seqK fun K17 hK17=>?_;refine block ?_;refine seqR (S Fv (S Ld (S Mv ?_)));obtain⟨x19,gx19,hE⟩:=bO hE;refine S (ix strE s6_11 gx19) (S Ld (S Mv (S BS (nil ?_))));refine cE hE (fun hc20 hE=>?_) (fun hc20 hE=>?_)
     ·refine seqK fun K21 hK21=>?_;refine seqR (S Mv (S Fv ?_));refine s0 (loadV (TK rfl) rfl rfl (congrArg (fun x=>some (A.d x)) (Z10.FItemsD_eq _))) rfl ?_;refine sLen (f:=Z10.c) (s:=a0.FItems) (TK rfl) rfl rfl rfl rfl fun hL23=>?_;refine S BI (nil ?_);refine cE hE (fun hc24 hE=>?_) (fun hc24 hE=>?_)
      ·refine seqR (S BU ?_);refine Sf ?_;refine S As (nil ?_);exact rt hE
      refine sk hK21 ?_;clear hK21 K21;refine seqR (S Fv ?_);refine s0 (loadV (TK rfl) rfl rfl (congrArg (fun x=>some (A.d x)) (Z10.FItemsD_eq _))) rfl ?_;refine S Mv ?_;obtain⟨x27,gx27,hE⟩:=bO hE;refine S (ix Z10.c s6_11 gx27) (S Ld ?_);obtain⟨x28,gx28,hE⟩:=bO hE;refine Sc rfl rfl (r02_Copy_walk gx28) ?_;refine Sf ?_;refine S As (nil ?_);exact rt hE
     refine sk hK17 ?_;clear hK17 K17;refine region ?_;refine S Mv ?_;refine SI ?_;refine S As (nil ?_);exact hK10 _ (n10,(s6_11+1),y12_l0) Weak.toA hE (Nat.lt_succ_self _)
    refine AWp.exit ?_;exact hK6 _ y12_l0 Weak.toA hE
 rintro y7_l0 hE;try dsimp only at hE
 unfold Z45_j6 at hE;refine seqR (S BU ?_);refine Sf ?_;refine S As (nil ?_);exact rt hE
def Z104 (a0:Z2) (a1:Z10):Option Bool:=bif ((!a0.Flit)||(!decide (a1.FKind=(7:Int)))) then(some false) else((Z45 a0.Fvars a1.FText).bind fun x7=>some (!x7.2))
theorem Z104_walk {a0:Z2}{a1:Z10}{c0:Nat}{r:Bool}(hE:Z104 a0 a1=some r) (H:Heap) (hc0:H c0=some (.cells (Z2.c a0))):ACalls Tryz.prog 142 [.d (.ptr c0 0),.agg (Z10.c a1)] H fun v h'=>v=.a (.d (.bool r))/\h'=H:=by
 unfold Z104 at hE;refine ACalls.oW 29 [.tmp 4] Tryz.call142 Tryz.func142 ?_;refine seqR (S BX (S As (nil ?_)));refine seqK fun K2 hK2=>?_;refine seqR (S Mv (S NP ?_));refine s0 (fieldP (TK rfl) rfl rfl (TK rfl) rfl rfl) rfl ?_;refine s0 (loadP (TK rfl) rfl rfl hpG rfl) rfl ?_;refine S NB (S Mv (G0 Fv ?_));refine G1 13 rfl Ld ?_;refine G1 14 rfl BI ?_;refine S PO (nil ?_);refine cE hE (fun hc4 hE=>?_) (fun hc4 hE=>?_)
 ·refine seqR (S As (nil ?_));exact rt hE
 refine sk hK2 ?_;clear hK2 K2;refine AWp.seqD (Sd Mv (Sd NP ?_));refine DOps.s0 (fieldP (TK rfl) rfl rfl (TK rfl) rfl rfl) rfl ?_;refine DOps.s0 (loadP (TK rfl) rfl rfl hpG rfl) rfl ?_;refine Sd Fv (Sd Ld ?_);obtain⟨x7,gx7,hE⟩:=bO hE;refine Scd rfl rfl (Z45_walk gx7) ?_;refine Sd Mv (Sd EX (Sd EX ?_));refine DOps.sB (TK rfl) rfl rfl ?_ (by repeat (first|exact Snoc.nil|apply Snoc.cons));refine DOps.sLn (storeLFA (TK rfl) rfl rfl rfl rfl rfl) ?_
 refine Sd As ?_;refine DOps.nil (by decide +kernel) ?_;refine freezeA 5 _ rfl (KA 6 Keeps.nil) ?_;refine seqR (S Mv (S NB (S As (nil ?_))));exact rt hE
def Z103 (a0:Z2) (a1:Int):Option Z2:=bif (decide (a0.Ferr=(0:Int))) then(some (Z2.mk a0.Fd a0.Fvars a0.Flit a0.Fcount a1)) else(some a0)
theorem Z103_walk {a0:Z2}{a1:Int}{c0:Nat}{r:Z2}(hE:Z103 a0 a1=some r) (H:Heap) (hc0:H c0=some (.cells (Z2.c a0))):ACalls Tryz.prog 197 [.d (.ptr c0 0),.d (.int .i64 a1)] H fun v h'=>v=.tup []/\h'=(H.set c0 (some (.cells (Z2.c r)))):=by
 unfold Z103 at hE;refine ACalls.oW 13 [] Tryz.call197 Tryz.func197 ?_;refine AWp.heqA (h':=(H.set c0 (some (.cells (Z2.c a0))))) (by funext n_; simp only [Heap.set]; (repeat' split)<;>simp_all) ?_;refine seqR (S Mv (S NP ?_));refine s0 (fieldP (TK rfl) rfl rfl (TK rfl) rfl rfl) rfl ?_;refine s0 (loadP (TK rfl) rfl rfl hpG rfl) rfl ?_;refine S BI (nil ?_);refine cE hE (fun hc2 hE=>?_) (fun hc2 hE=>?_)
 ·refine region ?_;refine S Mv (S Mv (S NP ?_));refine s0 (fieldP (TK rfl) rfl rfl (TK rfl) rfl rfl) rfl ?_;refine sHn (storeP1 (TK rfl) rfl rfl hpG rfl (by repeat (first|exact SetAt.zero|apply SetAt.succ))) rfl rfl ?_;refine hq (H.set c0 (some (.cells (Z2.c (Z2.mk a0.Fd a0.Fvars a0.Flit a0.Fcount a1))))) ?_;refine nil ?_;repeat (first|refine xBlock_normal ?_|refine xThen_exit ?_|refine xBlock_exit ?_)
  obtain rfl:=Option.some.inj hE;refine retQ.normalF (H.set c0 (some (.cells (Z2.c (Z2.mk a0.Fd a0.Fvars a0.Flit a0.Fcount a1))))) (xs:=[]) rfl ⟨rfl,rfl⟩ ?_;exact(fun _ _ h=>h)
 refine AWp.skip ?_;repeat (first|refine xBlock_normal ?_|refine xThen_exit ?_|refine xBlock_exit ?_)
 obtain rfl:=Option.some.inj hE;refine retQ.normalF (H.set c0 (some (.cells (Z2.c a0)))) (xs:=[]) rfl ⟨rfl,rfl⟩ ?_;exact(fun _ _ h=>h)
def Z105_j1  (y2_c0:Z2):Option Z2:=(addC y2_c0.Fcount (1:Int)).bind fun x4=>bif (decide ((4096:Int)<x4)) then((Z103 (Z2.mk y2_c0.Fd y2_c0.Fvars y2_c0.Flit x4 y2_c0.Ferr) (4:Int)).bind fun x7=>some x7) else(some (Z2.mk y2_c0.Fd y2_c0.Fvars y2_c0.Flit x4 y2_c0.Ferr))
def Z105 (a0:Z2) (a1:Int):Option Z2:=bif (decide ((24:Int)<a1)) then((Z103 a0 (5:Int)).bind fun x10=>Z105_j1   x10) else(Z105_j1   a0)
theorem Z105_walk {a0:Z2}{a1:Int}{c0:Nat}{r:Z2}(hE:Z105 a0 a1=some r) (H:Heap) (hc0:H c0=some (.cells (Z2.c a0))):ACalls Tryz.prog 199 [.d (.ptr c0 0),.d (.int .i64 a1)] H fun v h'=>v=.tup []/\h'=(H.set c0 (some (.cells (Z2.c r)))):=by
 unfold Z105 at hE;refine ACalls.oW 22 [] Tryz.call199 Tryz.func199 ?_;refine AWp.heqA (h':=(H.set c0 (some (.cells (Z2.c a0))))) (by funext n_; simp only [Heap.set]; (repeat' split)<;>simp_all) ?_;refine seqJH (TA 0 KeepsT.nil) (fun(z:Z2)=>[]) (fun z=>(H.set c0 (some (.cells (Z2.c z))))) (fun z=>Z105_j1 z=some r) ?_ ?_
 ·intro K1 hK1;refine seqR (S Mv (S BI (nil ?_)));refine cE hE (fun hc9 hE=>?_) (fun hc9 hE=>?_)
  ·refine region ?_;refine S Mv ?_;obtain⟨x10,gx10,hE⟩:=bO hE;refine sH (callH rfl rfl (Z103_walk gx10 _ hpG)) rfl ?_;refine hq (H.set c0 (some (.cells (Z2.c x10)))) ?_;refine nil ?_;exact hK1 _ x10 Weak.toA hE
  refine AWp.skip ?_;exact hK1 _ a0 Weak.toA hE
 rintro y2_c0 hE;try dsimp only at hE
 unfold Z105_j1 at hE;refine seqR (S Mv (S NP ?_));refine s0 (fieldP (TK rfl) rfl rfl (TK rfl) rfl rfl) rfl ?_;refine s0 (loadP (TK rfl) rfl rfl hpG rfl) rfl ?_;obtain⟨x4,gx4,hE⟩:=bO hE;refine s0 (addM rfl rfl gx4) rfl ?_;refine S NP ?_;refine s0 (fieldP (TK rfl) rfl rfl (TK rfl) rfl rfl) rfl ?_;refine sHn (storeP1 (TK rfl) rfl rfl hpG rfl (by repeat (first|exact SetAt.zero|apply SetAt.succ))) rfl rfl ?_
 refine hq (H.set c0 (some (.cells (Z2.c (Z2.mk y2_c0.Fd y2_c0.Fvars y2_c0.Flit x4 y2_c0.Ferr))))) ?_;refine nil ?_;refine seqR (S Mv (S NP ?_));refine s0 (fieldP (TK rfl) rfl rfl (TK rfl) rfl rfl) rfl ?_;refine s0 (loadP (TK rfl) rfl rfl hpG rfl) rfl ?_;refine S BI (nil ?_);refine cE hE (fun hc6 hE=>?_) (fun hc6 hE=>?_)
 ·refine region ?_;refine S Mv ?_;obtain⟨x7,gx7,hE⟩:=bO hE;refine sH (callH rfl rfl (Z103_walk gx7 _ hpG)) rfl ?_;refine hq (H.set c0 (some (.cells (Z2.c x7)))) ?_;refine nil ?_;repeat (first|refine xBlock_normal ?_|refine xThen_exit ?_|refine xBlock_exit ?_)
  obtain rfl:=Option.some.inj hE;refine retQ.normalF (H.set c0 (some (.cells (Z2.c x7)))) (xs:=[]) rfl ⟨rfl,rfl⟩ ?_;exact(fun _ _ h=>h)
 refine AWp.skip ?_;repeat (first|refine xBlock_normal ?_|refine xThen_exit ?_|refine xBlock_exit ?_)
 obtain rfl:=Option.some.inj hE;refine retQ.normalF (H.set c0 (some (.cells (Z2.c (Z2.mk y2_c0.Fd y2_c0.Fvars y2_c0.Flit x4 y2_c0.Ferr))))) (xs:=[]) rfl ⟨rfl,rfl⟩ ?_;exact(fun _ _ h=>h)
def Z109_j9  (y10_c0:Z2) (y11_l1:Z10):Option (Z10×Z2):=some (y11_l1,y10_c0)
def Z109_l14 (a1:Z10) (a2:Int) (k_rec_198:Z2->Z10->Int->Option (Z10×Z2)):Nat->Nat->Z2->Z10->Option (Z10×Z2)
 | 0,_,_,_=>none
 | n14+1,s8_15,y16_c0,y17_l1=>bif ((decide (((s8_15:Nat):Int)<((a1.FItems.l.length:Nat):Int)))&&(decide (y16_c0.Ferr=(0:Int)))) then((a1.FItems.l[s8_15]?).bind fun x24=>(addC a2 (1:Int)).bind fun x25=>(k_rec_198 y16_c0 x24 x25).bind fun x26=>(appC 80 y17_l1.FItems (⟨false,[x26.1]⟩:Sl Z10)).bind fun x27=>(Z109_l14 a1 a2 k_rec_198 n14) (s8_15+1) x26.2 (Z10.mk y17_l1.FKind y17_l1.FInt y17_l1.FText x27.nl x27.l y17_l1.FKeys)) else(Z109_j9   y16_c0 y17_l1)
def Z109_n:Nat->Z2->Z10->Int->Option (Z10×Z2)
 | 0,_,_,_=>none
 | n+1,a0,a1,a2=>(Z105 a0 a2).bind fun x3=>(appC 16 ((Z10.mk a1.FKind a1.FInt a1.FText true ([]) (Sl.nil:Sl Bs)).FKeys) a1.FKeys).bind fun x8=>Z109_l14 a1 a2 (Z109_n n) (a1.FItems.l.length+1) 0 x3 (Z10.mk ((Z10.mk a1.FKind a1.FInt a1.FText true ([]) (Sl.nil:Sl Bs)).FKind) ((Z10.mk a1.FKind a1.FInt a1.FText true ([]) (Sl.nil:Sl Bs)).FInt) ((Z10.mk a1.FKind a1.FInt a1.FText true ([]) (Sl.nil:Sl Bs)).FText) ((Z10.mk a1.FKind a1.FInt a1.FText true ([]) (Sl.nil:Sl Bs)).FItems).nl ((Z10.mk a1.FKind a1.FInt a1.FText true ([]) (Sl.nil:Sl Bs)).FItems).l x8)
theorem Z109_step (n:Nat) (ih_198:∀{a0:Z2}{a1:Z10}{a2:Int}{c0:Nat}{r:Z10×Z2},Z109_n n a0 a1 a2=some r->∀(H:Heap) (hc0:H c0=some (.cells (Z2.c a0))),ACalls Tryz.prog 198 [.d (.ptr c0 0),.agg (Z10.c a1),.d (.int .i64 a2)] H fun v h'=>v=.a (.agg (Z10.c r.1))/\h'=(H.set c0 (some (.cells (Z2.c r.2))))):∀{a0:Z2}{a1:Z10}{a2:Int}{c0:Nat}{r:Z10×Z2},Z109_n (n+1) a0 a1 a2=some r->∀(H:Heap) (hc0:H c0=some (.cells (Z2.c a0))),ACalls Tryz.prog 198 [.d (.ptr c0 0),.agg (Z10.c a1),.d (.int .i64 a2)] H fun v h'=>v=.a (.agg (Z10.c r.1))/\h'=(H.set c0 (some (.cells (Z2.c r.2)))):=by
 intro a0 a1 a2  c0 r hE H hc0;rw [Z109_n] at hE;refine ACalls.oW 56 [.cell 6 86] Tryz.call198 Tryz.func198 ?_;refine AWp.heqA (h':=(H.set c0 (some (.cells (Z2.c a0))))) (by funext n_; simp only [Heap.set]; (repeat' split)<;>simp_all) ?_;refine seqR (S BX ?_);refine Sl ?_;refine nil ?_;refine seqR (S Mv (S Mv ?_));obtain⟨x3,gx3,hE⟩:=bO hE;refine sH (callH rfl rfl (Z105_walk gx3 _ hpG)) rfl ?_;refine hq (H.set c0 (some (.cells (Z2.c x3)))) ?_
 refine nil ?_;refine seqR (S Fv (S Ld (S Fv (S Ld (S Fv (S Ld (S BU ?_)))))));refine Sl ?_;refine AOps.tok 5 fun tk7_5 htk7_5=>?_;obtain⟨ne_tk7_5_c0,htk7_5⟩:=Heap.set_fresh htk7_5;refine AOps.relocal 1 _ rfl (fun j w cs hh hx=>tok_cell 3 5 5 hh (t:=tk7_5) hpG hx rfl) ?_;refine AOps.tok 1 fun tk7_6 htk7_6=>?_;obtain⟨ne_tk7_6_tk7_5,htk7_6⟩:=Heap.set_fresh htk7_6;obtain⟨ne_tk7_6_c0,htk7_6⟩:=Heap.set_fresh htk7_6
 refine AOps.relocal 1 _ rfl (fun j w cs hh hx=>tok_cell 4 1 1 hh (t:=tk7_6) hpG hx rfl) ?_;refine Sf ?_;refine AOps.relocal 1 _ rfl (fun j w cs hh hx=>tok_cell 3 5 5 hh (t:=tk7_5) hpG hx rfl) ?_;refine AOps.relocal 1 _ rfl (fun j w cs hh hx=>tok_cell 4 1 1 hh (t:=tk7_6) hpG hx rfl) ?_;refine nil ?_;refine seqR (S FL (S LL (S Fv (S Ld ?_))));obtain⟨x8,gx8,hE⟩:=bO hE;refine SH (am strE (TK rfl) rfl (TK rfl) (TK rfl) gx8) ?_
 refine hq (((H.set c0 (some (.cells (Z2.c x3)))).set tk7_5 (some (.tok 5 0))).set tk7_6 (some (.tok 1 x8.l.length))) ?_;refine S FL ?_;refine Sf ?_;refine nil ?_;refine seqJ (TA 6 (TA 7 KeepsT.nil)) (fun(z:Z2×Z10)=>[]) (fun z=>[Z10.c Z10.zero,((intE .i64) z.2.FKind++(intE .i64) z.2.FInt++strE z.2.FText++[Sl.d 5 Z10.c (some tk7_5) z.2.FItems]++[Sl.d 1 strE (some tk7_6) z.2.FKeys])]) (fun z=>(((H.set c0 (some (.cells (Z2.c z.1)))).set tk7_5 (some (.tok 5 z.2.FItems.l.length))).set tk7_6 (some (.tok 1 z.2.FKeys.l.length)))) (fun z=>Z109_j9 z.1 z.2=some r) ?_ ?_
 ·intro K9 hK9;refine seqR (S As (nil ?_));refine block ?_;refine loopO (TA 0 (TA 2 (TA 4 (TA 6 (TA 7 KeepsT.nil))))) (fun(z:Nat×Nat×Z2×Z10)=>[(8,.a (.d (.int .i64 ((z.2.1:Nat):Int))))]) (fun z=>[Z10.c Z10.zero,((intE .i64) z.2.2.2.FKind++(intE .i64) z.2.2.2.FInt++strE z.2.2.2.FText++[Sl.d 5 Z10.c (some tk7_5) z.2.2.2.FItems]++[Sl.d 1 strE (some tk7_6) z.2.2.2.FKeys])]) (fun z=>(((H.set c0 (some (.cells (Z2.c z.2.2.1)))).set tk7_5 (some (.tok 5 z.2.2.2.FItems.l.length))).set tk7_6 (some (.tok 1 z.2.2.2.FKeys.l.length)))) (fun z=>z.1) (fun z=>Z109_l14 a1 a2 (Z109_n n) z.1 z.2.1 z.2.2.1 z.2.2.2=some r) ((a1.FItems.l.length+1),0,x3,(Z10.mk ((Z10.mk a1.FKind a1.FInt a1.FText true ([]) (Sl.nil:Sl Bs)).FKind) ((Z10.mk a1.FKind a1.FInt a1.FText true ([]) (Sl.nil:Sl Bs)).FInt) ((Z10.mk a1.FKind a1.FInt a1.FText true ([]) (Sl.nil:Sl Bs)).FText) ((Z10.mk a1.FKind a1.FInt a1.FText true ([]) (Sl.nil:Sl Bs)).FItems).nl ((Z10.mk a1.FKind a1.FInt a1.FText true ([]) (Sl.nil:Sl Bs)).FItems).l x8)) hE Weak.toA ?_
  rintro ⟨n14,s8_15,y16_c0,y17_l1⟩ hE K14 hK14;try dsimp only at hE
  cases n14 with
  | zero=>cases hE
  | succ n14 =>
    rw [Z109_l14] at hE;refine seqK fun K18 hK18=>?_;refine seqR (S Mv (S Fv ?_));refine s0 (loadV (TK rfl) rfl rfl (congrArg (fun x=>some (A.d x)) (Z10.FItemsD_eq _))) rfl ?_;refine sLen (f:=Z10.c) (s:=a1.FItems) (TK rfl) rfl rfl rfl rfl fun hL20=>?_;refine S BI (S Mv (G0 Mv ?_));refine G1 32 rfl NP ?_;refine gC rfl rfl (fun hC=>ungdA (k:=33) rfl (fieldP (TK rfl) rfl rfl (TK rfl) rfl rfl)) rfl ?_
    refine gC rfl rfl (fun hC=>ungdA (k:=34) rfl (loadP (TK rfl) rfl rfl hpG rfl)) rfl ?_;refine G1 35 rfl BI ?_;refine S PA (nil ?_);refine cE hE (fun hc21 hE=>?_) (fun hc21 hE=>?_)
    ·try dsimp only at hc21
     have hf21:=of_decide_eq_true (and_left hc21);refine sk hK18 ?_;clear hK18 K18;refine seqK fun K22 hK22=>?_;refine block ?_;refine seqR (S Mv (S Fv ?_));refine s0 (loadV (TK rfl) rfl rfl (congrArg (fun x=>some (A.d x)) (Z10.FItemsD_eq _))) rfl ?_;refine S Mv ?_;obtain⟨x24,gx24,hE⟩:=bO hE;refine S (ix Z10.c s8_15 gx24) (S Ld (S Mv ?_));obtain⟨x25,gx25,hE⟩:=bO hE;refine s0 (addM rfl rfl gx25) rfl ?_
     obtain⟨x26,gx26,hE⟩:=bO hE;refine sH (callH rfl rfl (ih_198 gx26 _ hpG)) rfl ?_;refine hq (((H.set c0 (some (.cells (Z2.c x26.2)))).set tk7_5 (some (.tok 5 y17_l1.FItems.l.length))).set tk7_6 (some (.tok 1 y17_l1.FKeys.l.length))) ?_;refine Sl ?_;refine Sf ?_;refine nil ?_;refine freezeA 9 _ rfl (KA 0 (KA 2 (KA 4 (KA 6 (KA 7 (KA 8 Keeps.nil)))))) ?_;refine region ?_;refine S FL (S LL (S Ld (S BV ?_)))
     obtain⟨x27,gx27,hE⟩:=bO hE;refine SH (am Z10.c (TK rfl) rfl (TK rfl) (TK rfl) gx27) ?_;refine hq (((H.set c0 (some (.cells (Z2.c x26.2)))).set tk7_5 (some (.tok 5 x27.l.length))).set tk7_6 (some (.tok 1 y17_l1.FKeys.l.length))) ?_;refine S FL ?_;refine Sf ?_;refine nil ?_;refine hK22 _ ?_;clear hK22 K22;refine region ?_;refine S Mv ?_;refine SI ?_;refine S As (nil ?_);exact hK14 _ (n14,(s8_15+1),x26.2,(Z10.mk y17_l1.FKind y17_l1.FInt y17_l1.FText x27.nl x27.l y17_l1.FKeys)) Weak.toA hE (Nat.lt_succ_self _)
    refine AWp.exit ?_;exact hK9 _ (y16_c0,y17_l1) Weak.toA hE
 rintro ⟨y10_c0,y11_l1⟩ hE;try dsimp only at hE
 unfold Z109_j9 at hE;refine seqK fun K12 hK12=>?_;refine AWp.relocal 1 _ rfl (fun j w cs hh hx=>untok_cell 3 hx rfl) ?_;refine AWp.relocal 1 _ rfl (fun j w cs hh hx=>untok_cell 4 hx rfl) ?_;refine AWp.relocal 1 (Z10.c y11_l1) rfl (fun j w cs hh hx=>by rw [Z10.cu_eq]; exact hx) ?_;refine region ?_;refine S LL ?_;refine Sf ?_;refine nil ?_;refine hK12 _ ?_;clear hK12 K12;refine AWp.ret ?_;repeat (first|refine xBlock_ret ?_|refine xThen_ret ?_)
 obtain rfl:=Option.some.inj hE;refine retQ.retF (H.set c0 (some (.cells (Z2.c y10_c0)))) rfl ⟨rfl,rfl⟩ ?_;intro id_ o_ he_;have e_tk7_5:id_≠tk7_5:=fun e_=>by subst e_; simp_all [Heap.set]
 have e_tk7_6:id_≠tk7_6:=fun e_=>by subst e_; simp_all [Heap.set]
 rw [<- he_];simp only [Heap.set] at he_ ⊢
 (repeat' split)<;>simp_all
theorem Z109_all:∀(n:Nat),(∀{a0:Z2}{a1:Z10}{a2:Int}{c0:Nat}{r:Z10×Z2},Z109_n n a0 a1 a2=some r->∀(H:Heap) (hc0:H c0=some (.cells (Z2.c a0))),ACalls Tryz.prog 198 [.d (.ptr c0 0),.agg (Z10.c a1),.d (.int .i64 a2)] H fun v h'=>v=.a (.agg (Z10.c r.1))/\h'=(H.set c0 (some (.cells (Z2.c r.2)))))
 | 0=>fun hE=>by first|cases hE|(rw [Z109_n] at hE; cases hE)
 | n+1=>Z109_step n (Z109_all n)
def Z109 (a0:Z2) (a1:Z10) (a2:Int):Option (Z10×Z2):=Z109_n F0 a0 a1 a2
theorem Z109_walk {a0:Z2}{a1:Z10}{a2:Int}{c0:Nat}{r:Z10×Z2}(hE:Z109 a0 a1 a2=some r) (H:Heap) (hc0:H c0=some (.cells (Z2.c a0))):ACalls Tryz.prog 198 [.d (.ptr c0 0),.agg (Z10.c a1),.d (.int .i64 a2)] H fun v h'=>v=.a (.agg (Z10.c r.1))/\h'=(H.set c0 (some (.cells (Z2.c r.2)))):=(Z109_all F0) hE H hc0
def Z42_n:Nat->Int->Option Bs
 | 0,_=>none
 | n+1,a0=>(subC (48:Int) (Int.tmod a0 (10:Int))).bind fun x3=>bif (decide ((-10:Int)<a0)) then(some (bytesC (⟨false,[(IntKind.wrap .u8 x3)]⟩:Sl Int))) else(((Z42_n n) (IntKind.wrap .i64 (Int.tdiv a0 (10:Int)))).bind fun x9=>(catC x9 (bytesC (⟨false,[(IntKind.wrap .u8 x3)]⟩:Sl Int))).bind fun x10=>some x10)
theorem Z42_step (n:Nat) (ih_226:∀{a0:Int}{r:Bs},Z42_n n a0=some r->∀(H:Heap),ACalls Tryz.prog 226 [.d (.int .i64 a0)] H fun v h'=>v=.a (.d (.str r))/\h'=H):∀{a0:Int}{r:Bs},Z42_n (n+1) a0=some r->∀(H:Heap),ACalls Tryz.prog 226 [.d (.int .i64 a0)] H fun v h'=>v=.a (.d (.str r))/\h'=H:=by
 intro a0   r hE H ;rw [Z42_n] at hE;refine ACalls.oW 18 [.tmp 2] Tryz.call226 Tryz.func226 ?_;refine seqR (S As (nil ?_));refine seqR (S Mv ?_);refine s0 (remI rfl rfl (by decide)) rfl ?_;obtain⟨x3,gx3,hE⟩:=bO hE;refine s0 (subM rfl rfl gx3) rfl ?_;refine s0 (convI (TK rfl) (TK rfl) rfl rfl) rfl ?_;refine S BV ?_;refine s0 (convB (y:=(⟨false,[(IntKind.wrap .u8 x3)]⟩:Sl Int)) (TK rfl) rfl (TK rfl) rfl (TK rfl) rfl rfl) rfl ?_
 refine S As (nil ?_);refine seqK fun K4 hK4=>?_;refine seqR (S Mv (S BI (nil ?_)));refine cE hE (fun hc6 hE=>?_) (fun hc6 hE=>?_)
 ·refine seqR (S Mv (S As (nil ?_)));exact rt hE
 refine sk hK4 ?_;clear hK4 K4;refine seqR (S Mv ?_);refine s0 (quoI rfl rfl (by decide)) rfl ?_;obtain⟨x9,gx9,hE⟩:=bO hE;refine Sc rfl rfl (ih_226 gx9) ?_;refine S Mv ?_;obtain⟨x10,gx10,hE⟩:=bO hE;refine s0 (catM rfl rfl gx10) rfl ?_;refine S As (nil ?_);exact rt hE
theorem Z42_all:∀(n:Nat),(∀{a0:Int}{r:Bs},Z42_n n a0=some r->∀(H:Heap),ACalls Tryz.prog 226 [.d (.int .i64 a0)] H fun v h'=>v=.a (.d (.str r))/\h'=H)
 | 0=>fun hE=>by first|cases hE|(rw [Z42_n] at hE; cases hE)
 | n+1=>Z42_step n (Z42_all n)
def Z42 (a0:Int):Option Bs:=Z42_n F0 a0
theorem Z42_walk {a0:Int}{r:Bs}(hE:Z42 a0=some r) (H:Heap) :ACalls Tryz.prog 226 [.d (.int .i64 a0)] H fun v h'=>v=.a (.d (.str r))/\h'=H:=(Z42_all F0) hE H 
end Go.Proofs

namespace Go.Proofs
open Go Go.Ab
open AOps Cert AWp Keeps KeepsT
variable {lou:Lou}
def Z38 (a0:Int):Option Bs:=bif (decide (a0<(0:Int))) then((Z42 a0).bind fun x6=>(catC ([45]:Bs) x6).bind fun x7=>some x7) else((Z42 (IntKind.wrap .i64 (0-a0))).bind fun x9=>some x9)
theorem Z38_walk {a0:Int}{r:Bs}(hE:Z38 a0=some r) (H:Heap) :ACalls Tryz.prog 217 [.d (.int .i64 a0)] H fun v h'=>v=.a (.d (.str r))/\h'=H:=by
 unfold Z38 at hE;refine ACalls.oW 11 [.tmp 2] Tryz.call217 Tryz.func217 ?_;refine seqR (S As (nil ?_));refine seqK fun K2 hK2=>?_;refine seqR (S Mv (S BI (nil ?_)));refine cE hE (fun hc4 hE=>?_) (fun hc4 hE=>?_)
 ·refine seqR (S Mv ?_);obtain⟨x6,gx6,hE⟩:=bO hE;refine Sc rfl rfl (Z42_walk gx6) ?_;obtain⟨x7,gx7,hE⟩:=bO hE;refine s0 (catM rfl rfl gx7) rfl ?_;refine S As (nil ?_);exact rt hE
 refine sk hK2 ?_;clear hK2 K2;refine seqR (S Mv ?_);refine s0 (negI rfl) rfl ?_;obtain⟨x9,gx9,hE⟩:=bO hE;refine Sc rfl rfl (Z42_walk gx9) ?_;refine S As (nil ?_);exact rt hE
def Z108_j2 (a0:Z2)  (y3_l0:Z10):Option (Z10×Z2):=(Z103 a0 (23:Int)).bind fun x5=>some ((Z10.mk (0:Int) (0:Int) ([]:Bs) true ([]) (Sl.nil:Sl Bs)),x5)
def Z108_j10 (a0:Z2) (a1:Bs) (a2:Z10)  (s26_11:Bool):Option (Z10×Z2):=bif s26_11 then(some (a2,a0)) else(bif (((a1==([73,68]:Bs)))&&(decide (a2.FKind=(2:Int)))) then((Z38 a2.FInt).bind fun x17=>some ((Z10.mk (3:Int) (0:Int) x17 true ([]) (Sl.nil:Sl Bs)),a0)) else(Z108_j2 a0  Z10.zero))
def Z108 (a0:Z2) (a1:Bs) (a2:Z10):Option (Z10×Z2):=bif (((((a1==([73,110,116]:Bs)))&&(decide (a2.FKind=(2:Int))))&&(decide ((-2147483648:Int)<=a2.FInt)))&&(decide (a2.FInt<(2147483648:Int)))) then(some (a2,a0)) else(bif (((a1==([83,116,114,105,110,103]:Bs)))&&(decide (a2.FKind=(3:Int)))) then(Z108_j10 a0 a1 a2  (((a1==([83,116,114,105,110,103]:Bs)))&&(decide (a2.FKind=(3:Int))))) else(bif (((a1==([66,111,111,108,101,97,110]:Bs)))&&(decide (a2.FKind=(1:Int)))) then(Z108_j10 a0 a1 a2  (((a1==([66,111,111,108,101,97,110]:Bs)))&&(decide (a2.FKind=(1:Int))))) else(Z108_j10 a0 a1 a2  (((a1==([73,68]:Bs)))&&(decide (a2.FKind=(3:Int)))))))
theorem Z108_walk {a0:Z2}{a1:Bs}{a2:Z10}{c0:Nat}{r:Z10×Z2}(hE:Z108 a0 a1 a2=some r) (H:Heap) (hc0:H c0=some (.cells (Z2.c a0))):ACalls Tryz.prog 201 [.d (.ptr c0 0),.d (.str a1),.agg (Z10.c a2)] H fun v h'=>v=.a (.agg (Z10.c r.1))/\h'=(H.set c0 (some (.cells (Z2.c r.2)))):=by
 unfold Z108 at hE;refine ACalls.oW 64 [.cell 6 86] Tryz.call201 Tryz.func201 ?_;refine AWp.heqA (h':=(H.set c0 (some (.cells (Z2.c a0))))) (by funext n_; simp only [Heap.set]; (repeat' split)<;>simp_all) ?_;refine seqR (S BX ?_);refine Sl ?_;refine nil ?_;refine seqJ (TA 0 (TA 6 KeepsT.nil)) (fun(z:Z10)=>[]) (fun z=>[Z10.c z]) (fun z=>(H.set c0 (some (.cells (Z2.c a0))))) (fun z=>Z108_j2 a0 z=some r) ?_ ?_
 ·intro K2 hK2;refine block ?_;refine seqR (S Mv (S BS (S Mv (G0 Fv ?_))));refine G1 11 rfl Ld ?_;refine G1 12 rfl BI ?_;refine S PA (S Mv (G0 Fv ?_));refine G1 16 rfl Ld ?_;refine G1 17 rfl BI ?_;refine S PA (S Mv (G0 Fv ?_));refine G1 21 rfl Ld ?_;refine G1 22 rfl BI ?_;refine S PA (S As (nil ?_));refine cE hE (fun hc8 hE=>?_) (fun hc8 hE=>?_)
  ·refine seqR (S Ld ?_);refine Sf ?_;refine nil ?_;exact rt hE
  refine seqJH (TA 0 (TA 1 (TA 5 (TA 6 KeepsT.nil)))) (fun(z:Bool)=>[(26,.a (.d (.bool z)))]) (fun z=>(H.set c0 (some (.cells (Z2.c a0))))) (fun z=>Z108_j10 a0 a1 a2 z=some r) ?_ ?_
  ·intro K10 hK10;refine seqR (S Mv (S BS (S Mv (G0 Fv ?_))));refine G1 30 rfl Ld ?_;refine G1 31 rfl BI ?_;refine S PA (S As (nil ?_));refine cE hE (fun hc19 hE=>?_) (fun hc19 hE=>?_)
   ·refine AWp.skip ?_;exact hK10 _ (((a1==([83,116,114,105,110,103]:Bs)))&&(decide (a2.FKind=(3:Int)))) Weak.toA hE
   refine seqR (S Mv (S BS (S Mv (G0 Fv ?_))));refine G1 37 rfl Ld ?_;refine G1 38 rfl BI ?_;refine S PA (S As (nil ?_));refine cE hE (fun hc21 hE=>?_) (fun hc21 hE=>?_)
   ·refine AWp.skip ?_;exact hK10 _ (((a1==([66,111,111,108,101,97,110]:Bs)))&&(decide (a2.FKind=(1:Int)))) Weak.toA hE
   refine region ?_;refine S Mv (S BS (S Mv (G0 Fv ?_)));refine G1 44 rfl Ld ?_;refine G1 45 rfl BI ?_;refine S PA (S As (nil ?_));exact hK10 _ (((a1==([73,68]:Bs)))&&(decide (a2.FKind=(3:Int)))) Weak.toA hE
  rintro s26_11 hE;try dsimp only at hE
  unfold Z108_j10 at hE;refine cE hE (fun hc12 hE=>?_) (fun hc12 hE=>?_)
  ·refine seqR (S Ld ?_);refine Sf ?_;refine nil ?_;exact rt hE
  refine seqR (S Mv (S BS (S Mv (G0 Fv ?_))));refine G1 53 rfl Ld ?_;refine G1 54 rfl BI ?_;refine S PA (S As (nil ?_));refine cE hE (fun hc15 hE=>?_) (fun hc15 hE=>?_)
  ·refine seqR (S Fv (S Ld ?_));obtain⟨x17,gx17,hE⟩:=bO hE;refine Sc rfl rfl (Z38_walk gx17) ?_;refine S BU ?_;refine Sf ?_;refine nil ?_;exact rt hE
  refine AWp.skip ?_;exact hK2 _ Z10.zero Weak.toA hE
 rintro y3_l0 hE;try dsimp only at hE
 unfold Z108_j2 at hE;refine seqR (S Mv ?_);obtain⟨x5,gx5,hE⟩:=bO hE;refine sH (callH rfl rfl (Z103_walk gx5 _ hpG)) rfl ?_;refine hq (H.set c0 (some (.cells (Z2.c x5)))) ?_;refine nil ?_;refine seqR (S BU ?_);refine Sf ?_;refine nil ?_;exact rt hE
def Z102_j2 (a0:Z2)  (y3_l0:Z10):Option (Z10×Z2):=(Z103 a0 (23:Int)).bind fun x5=>some ((Z10.mk (0:Int) (0:Int) ([]:Bs) true ([]) (Sl.nil:Sl Bs)),x5)
def Z102_l10 (a0:Z2) (a1:TDef) (a2:Z10) :Nat->Nat->Z10->Option (Z10×Z2)
 | 0,_,_=>none
 | n10+1,s7_11,y12_l0=>bif (decide (((s7_11:Nat):Int)<((a1.FMembers.l.length:Nat):Int))) then((a1.FMembers.l[s7_11]?).bind fun x19=>bif ((x19.FName==a2.FText)) then(some ((Z10.mk (4:Int) (0:Int) a2.FText true ([]) (Sl.nil:Sl Bs)),a0)) else((Z102_l10 a0 a1 a2 n10) (s7_11+1) y12_l0)) else(Z102_j2 a0  y12_l0)
def Z102 (a0:Z2) (a1:TDef) (a2:Z10):Option (Z10×Z2):=bif ((decide (a2.FKind=(4:Int)))||((decide (a2.FKind=(3:Int)))&&(!a0.Flit))) then(Z102_l10 a0 a1 a2 (a1.FMembers.l.length+1) 0 Z10.zero) else(Z102_j2 a0  Z10.zero)
theorem Z102_walk {a0:Z2}{a1:TDef}{a2:Z10}{c0:Nat}{r:Z10×Z2}(hE:Z102 a0 a1 a2=some r) (H:Heap) (hc0:H c0=some (.cells (Z2.c a0))):ACalls Tryz.prog 202 [.d (.ptr c0 0),.agg (TDef.c a1),.agg (Z10.c a2)] H fun v h'=>v=.a (.agg (Z10.c r.1))/\h'=(H.set c0 (some (.cells (Z2.c r.2)))):=by
 unfold Z102 at hE;refine ACalls.oW 45 [.cell 6 86] Tryz.call202 Tryz.func202 ?_;refine AWp.heqA (h':=(H.set c0 (some (.cells (Z2.c a0))))) (by funext n_; simp only [Heap.set]; (repeat' split)<;>simp_all) ?_;refine seqR (S BX (S BX ?_));refine Sl ?_;refine nil ?_;refine seqJ (TA 0 (TA 6 KeepsT.nil)) (fun(z:Z10)=>[]) (fun z=>[Z10.c z]) (fun z=>(H.set c0 (some (.cells (Z2.c a0))))) (fun z=>Z102_j2 a0 z=some r) ?_ ?_
 ·intro K2 hK2;refine seqR (S Fv (S Ld (S BI (S Mv (G0 Fv ?_)))));refine G1 12 rfl Ld ?_;refine G1 13 rfl BI ?_;refine G1 14 rfl Mv ?_;refine G0 Mv ?_;refine G1 16 rfl NP ?_;refine gC rfl rfl (fun hC=>ungdA (k:=17) rfl (fieldP (TK rfl) rfl rfl (TK rfl) rfl rfl)) rfl ?_;refine gC rfl rfl (fun hC=>ungdA (k:=18) rfl (loadP (TK rfl) rfl rfl hpG rfl)) rfl ?_;refine G1 19 rfl NB ?_;refine gC rfl rfl (fun hC=>ungdA (k:=15) rfl (pickAndA rfl rfl rfl)) rfl ?_
  refine S PO (nil ?_);refine cE hE (fun hc8 hE=>?_) (fun hc8 hE=>?_)
  ·refine seqR (S As (nil ?_));refine block ?_;refine loopO (TA 0 (TA 4 (TA 5 (TA 6 KeepsT.nil)))) (fun(z:Nat×Nat×Z10)=>[(7,.a (.d (.int .i64 ((z.2.1:Nat):Int))))]) (fun z=>[Z10.c z.2.2]) (fun z=>(H.set c0 (some (.cells (Z2.c a0))))) (fun z=>z.1) (fun z=>Z102_l10 a0 a1 a2 z.1 z.2.1 z.2.2=some r) ((a1.FMembers.l.length+1),0,Z10.zero) hE Weak.toA ?_;rintro ⟨n10,s7_11,y12_l0⟩ hE K10 hK10;try dsimp only at hE
   cases n10 with
   | zero=>cases hE
   | succ n10 =>
     rw [Z102_l10] at hE;refine seqK fun K13 hK13=>?_;refine seqR (S Mv (S Fv (S Ld ?_)));refine sLen (f:=Z8.c) (s:=a1.FMembers) (TK rfl) rfl rfl rfl rfl fun hL15=>?_;refine S BI (nil ?_);refine cE hE (fun hc16 hE=>?_) (fun hc16 hE=>?_)
     ·try dsimp only at hc16
      have hf16:=of_decide_eq_true hc16;refine sk hK13 ?_;clear hK13 K13;refine seqK fun K17 hK17=>?_;refine block ?_;refine AWp.seqD (Sd Fv (Sd Ld (Sd Mv ?_)));obtain⟨x19,gx19,hE⟩:=bO hE;refine Sd (ix Z8.c s7_11 gx19) (Sd Fv (Sd Ld (Sd Fv (Sd Ld (Sd BS ?_)))));refine DOps.nil (by decide +kernel) ?_;refine cE hE (fun hc20 hE=>?_) (fun hc20 hE=>?_)
      ·refine seqR (S Fv (S Ld (S BU ?_)));refine Sf ?_;refine nil ?_;exact rt hE
      refine sk hK17 ?_;clear hK17 K17;refine region ?_;refine S Mv ?_;refine SI ?_;refine S As (nil ?_);exact hK10 _ (n10,(s7_11+1),y12_l0) Weak.toA hE (Nat.lt_succ_self _)
     refine AWp.exit ?_;exact hK2 _ y12_l0 Weak.toA hE
  refine AWp.skip ?_;exact hK2 _ Z10.zero Weak.toA hE
 rintro y3_l0 hE;try dsimp only at hE
 unfold Z102_j2 at hE;refine seqR (S Mv ?_);obtain⟨x5,gx5,hE⟩:=bO hE;refine sH (callH rfl rfl (Z103_walk gx5 _ hpG)) rfl ?_;refine hq (H.set c0 (some (.cells (Z2.c x5)))) ?_;refine nil ?_;refine seqR (S BU ?_);refine Sf ?_;refine nil ?_;exact rt hE
def Z101_j2  :Option Bool:=some false
def Z101_l5 (a0:(Sl Z7)) (a1:Int) :Nat->Int->Option Bool
 | 0,_=>none
 | n5+1,s5_6=>bif (decide (s5_6<a1)) then((idxC a0.l s5_6).bind fun x12=>(idxC a0.l a1).bind fun x13=>bif ((x12.FName==x13.FName)) then(some true) else((addC s5_6 (1:Int)).bind fun x16=>(Z101_l5 a0 a1 n5) x16)) else(Z101_j2   )
def Z101 (a0:(Sl Z7)) (a1:Int):Option Bool:=Z101_l5 a0 a1 F0 (0:Int)
theorem Z101_walk {a0:Sl Z7}{a1:Int}{w0:Option Nat}{r:Bool}(hE:Z101 a0 a1=some r) (H:Heap) :ACalls Tryz.prog 218 [.d (Sl.d 10 Z7.c w0 a0),.d (.int .i64 a1)] H fun v h'=>v=.a (.d (.bool r))/\h'=H:=by
 unfold Z101 at hE;refine ACalls.oW 22 [.tmp 4] Tryz.call218 Tryz.func218 ?_;refine seqR (S As (nil ?_));refine seqJH KeepsT.nil (fun(z:Unit)=>[]) (fun z=>H) (fun z=>Z101_j2 =some r) ?_ ?_
 ·intro K2 hK2;refine seqR (S As (nil ?_));refine block ?_;refine loopH (TA 0 (TA 1 KeepsT.nil)) (fun(z:Nat×Int)=>[(5,.a (.d (.int .i64 z.2)))]) (fun z=>H) (fun z=>z.1) (fun z=>Z101_l5 a0 a1 z.1 z.2=some r) (F0,(0:Int)) hE Weak.toA ?_;rintro ⟨n5,s5_6⟩ hE K5 hK5;try dsimp only at hE
  cases n5 with
  | zero=>cases hE
  | succ n5 =>
    rw [Z101_l5] at hE;refine seqK fun K7 hK7=>?_;refine seqR (S Mv (S Mv (S BI (nil ?_))));refine cE hE (fun hc9 hE=>?_) (fun hc9 hE=>?_)
    ·refine sk hK7 ?_;clear hK7 K7;refine seqK fun K10 hK10=>?_;refine block ?_;refine AWp.seqD (Sd Mv (Sd Mv ?_));obtain⟨x12,gx12,hE⟩:=bO hE;refine DOps.s0 (idxM (f:=Z7.c) (TK rfl) rfl (TK rfl) rfl rfl rfl gx12) rfl ?_;refine Sd Fv (Sd Ld (Sd Mv (Sd Mv ?_)));obtain⟨x13,gx13,hE⟩:=bO hE;refine DOps.s0 (idxM (f:=Z7.c) (TK rfl) rfl (TK rfl) rfl rfl rfl gx13) rfl ?_;refine Sd Fv (Sd Ld (Sd BS ?_));refine DOps.nil (by decide +kernel) ?_
     refine cE hE (fun hc14 hE=>?_) (fun hc14 hE=>?_)
     ·refine seqR (S As (nil ?_));exact rt hE
     refine sk hK10 ?_;clear hK10 K10;refine region ?_;refine S Mv ?_;obtain⟨x16,gx16,hE⟩:=bO hE;refine s0 (addM rfl rfl gx16) rfl ?_;refine S As (nil ?_);exact hK5 _ (n5,x16) Weak.toA hE (Nat.lt_succ_self _)
    refine AWp.exit ?_;exact hK2 _ () Weak.toA hE
 rintro _ hE;try dsimp only at hE
 unfold Z101_j2 at hE;refine seqR (S As (nil ?_));exact rt hE
end Go.Proofs
