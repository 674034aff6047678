import Derived.Test.YtimiconoebjfbaaGreatDoorV3
set_option maxRecDepth 100000
set_option maxHeartbeats 2000000
set_option linter.unusedVariables false
set_option linter.unusedSimpArgs false
namespace Go.Proofs
open Go Go.Ab
open AOps Cert AWp Keeps KeepsT
variable {lou:Lou}
def Z44_j2  (y3_l0:TField):Option (TField×Bool):=some ((TField.mk ([]:Bs) (Sl.nil:Sl TInput) TRef.zero (Sl.nil:Sl TDir)),false)
def Z44_l6 (a0:TDef) (a1:Bs) :Nat->Nat->TField->Option (TField×Bool)
 | 0,_,_=>none
 | n6+1,s6_7,y8_l0=>bif (decide (((s6_7:Nat):Int)<((a0.FFields.l.length:Nat):Int))) then((a0.FFields.l[s6_7]?).bind fun x15=>bif ((x15.FName==a1)) then((a0.FFields.l[s6_7]?).bind fun x18=>some (x18,true)) else((Z44_l6 a0 a1 n6) (s6_7+1) y8_l0)) else(Z44_j2   y8_l0)
def Z44 (a0:TDef) (a1:Bs):Option (TField×Bool):=Z44_l6 a0 a1 (a0.FFields.l.length+1) 0 TField.zero
theorem Z44_walk {a0:TDef}{a1:Bs}{r:TField×Bool}(hE:Z44 a0 a1=some r) (H:Heap) :ACalls Tryz.prog 71 [.agg (TDef.c a0),.d (.str a1)] H fun v h'=>v=.tup [.agg (TField.c r.1),.d (.bool r.2)]/\h'=H:=by
 unfold Z44 at hE;refine ACalls.oW 28 [.cell 4 78,.tmp 5] Tryz.call71 Tryz.func71 ?_;refine seqR ?_;refine S BX ?_;refine Sl ?_;refine S As ?_;refine nil ?_;refine seqJ (TA 4 KeepsT.nil) (fun(z:TField)=>[]) (fun z=>[TField.c z]) (fun z=>H) (fun z=>Z44_j2 z=some r) ?_ ?_
 ·intro K2 hK2;refine seqR ?_;refine S As ?_;refine nil ?_;refine block ?_;refine loopO (TA 1 (TA 2 (TA 4 KeepsT.nil))) (fun(z:Nat×Nat×TField)=>[(6,.a (.d (.int .i64 ((z.2.1:Nat):Int))))]) (fun z=>[TField.c z.2.2]) (fun z=>H) (fun z=>z.1) (fun z=>Z44_l6 a0 a1 z.1 z.2.1 z.2.2=some r) ((a0.FFields.l.length+1),0,TField.zero) hE Weak.toA ?_;rintro ⟨n6,s6_7,y8_l0⟩ hE K6 hK6;try dsimp only at hE
  cases n6 with
  | zero=>cases hE
  | succ n6 =>
    rw [Z44_l6] at hE;refine seqK fun K9 hK9=>?_;refine seqR ?_;refine S Mv (S Fv (S Ld ?_));refine sLen (f:=TField.c) (s:=a0.FFields) (TK rfl) rfl rfl rfl rfl fun hL11=>?_;refine S BI ?_;refine nil ?_;refine cE hE (fun hc12 hE=>?_) (fun hc12 hE=>?_)
    ·try dsimp only at hc12
     have hf12:=of_decide_eq_true hc12;refine sk hK9 ?_;clear hK9 K9;refine seqK fun K13 hK13=>?_;refine block ?_;refine seqR ?_;refine S Fv (S Ld (S Mv ?_));obtain⟨x15,gx15,hE⟩:=bO hE;refine s0 (idxMn (f:=TField.c) (n:=s6_7) (TK rfl) rfl (TK rfl) rfl rfl rfl gx15) rfl ?_;refine S Fv (S Ld (S Mv (S BS ?_)));refine nil ?_;refine cE hE (fun hc16 hE=>?_) (fun hc16 hE=>?_)
     ·refine seqR ?_;refine S Fv (S Ld (S Mv ?_));obtain⟨x18,gx18,hE⟩:=bO hE;refine s0 (idxMn (f:=TField.c) (n:=s6_7) (TK rfl) rfl (TK rfl) rfl rfl rfl gx18) rfl ?_;refine S Ld ?_;refine Sf ?_;refine S As ?_;refine nil ?_;exact rt hE
     refine sk hK13 ?_;clear hK13 K13;refine region ?_;refine S Mv ?_;refine SI ?_;refine S As ?_;refine nil ?_;exact hK6 _ (n6,(s6_7+1),y8_l0) Weak.toA hE (Nat.lt_succ_self _)
    refine AWp.exit ?_;exact hK2 _ y8_l0 Weak.toA hE
 rintro y3_l0 hE;try dsimp only at hE
 unfold Z44_j2 at hE;refine seqR ?_;refine S BU ?_;refine Sf ?_;refine S As ?_;refine nil ?_;exact rt hE
def Z56_j3  (s5_4:(Sl TFault)):Option (Sl TFault):=some s5_4
def Z56_j14 (s6_9:Nat) (k_next_7:(Sl TFault)->Nat->Option (Sl TFault)) (s5_15:(Sl TFault)):Option (Sl TFault):=k_next_7 s5_15 (s6_9+1)
def Z56_j29 (a0:TDoc) (s6_9:Nat) (x17:TField) (x20:Bs) (k_next_7:(Sl TFault)->Nat->Option (Sl TFault)) (s5_30:(Sl TFault)):Option (Sl TFault):=(catC x20 ([40]:Bs)).bind fun x31=>(Z58 a0 x17.FArgs x31 ([41]:Bs)).bind fun x32=>(appC 24 s5_30 x32).bind fun x33=>Z56_j14 s6_9 k_next_7 x33
def Z56_l7 (a0:TDoc) (a1:TDef) :Nat->(Sl TFault)->Nat->Option (Sl TFault)
 | 0,_,_=>none
 | n7+1,s5_8,s6_9=>bif (decide (((s6_9:Nat):Int)<((a1.FFields.l.length:Nat):Int))) then((a1.FFields.l[s6_9]?).bind fun x17=>(catC a1.FName ([46]:Bs)).bind fun x19=>(catC x19 x17.FName).bind fun x20=>(partC a1.FFields none (some ((s6_9:Nat):Int))).bind fun x22=>(Z44 (TDef.mk (0:Int) ([]:Bs) (Sl.nil:Sl Bs) (Sl.nil:Sl TDir) x22 (Sl.nil:Sl TMember) (Sl.nil:Sl TInput)) x17.FName).bind fun x23=>(Z61 x17.FName false x23.2 x20).bind fun x25=>(appC 24 s5_8 x25).bind fun x26=>(Z45 a0 x17.FType.FName).bind fun x28=>(Z59 a0 x17.FType.FName).bind fun x35=>bif (!x35) then((appC 24 x26 (⟨false,[(TFault.mk (8:Int) x20)]⟩:Sl TFault)).bind fun x37=>Z56_j29 a0 s6_9 x17 x20 ((Z56_l7 a0 a1 n7)) x37) else((Z51 x17.FType.FName).bind fun x39=>bif (((!x39)&&x28.2)&&(decide (x28.1.FKind=(5:Int)))) then((appC 24 x26 (⟨false,[(TFault.mk (10:Int) x20)]⟩:Sl TFault)).bind fun x41=>Z56_j29 a0 s6_9 x17 x20 ((Z56_l7 a0 a1 n7)) x41) else(Z56_j29 a0 s6_9 x17 x20 ((Z56_l7 a0 a1 n7)) x26))) else(Z56_j3   s5_8)
def Z56 (a0:TDoc) (a1:TDef):Option (Sl TFault):=Z56_l7 a0 a1 (a1.FFields.l.length+1) (Sl.nil:Sl TFault) 0
theorem Z56_walk {a0:TDoc}{a1:TDef}{r:Sl TFault}(hE:Z56 a0 a1=some r) (H:Heap) :ACalls Tryz.prog 33 [.agg (TDoc.c a0),.agg (TDef.c a1)] H fun v h'=>v=.a (.d (Sl.d 2 TFault.c none r))/\h'=H:=by
 unfold Z56 at hE;refine ACalls.oW 95 [.tmp 4] Tryz.call33 Tryz.func33 ?_;refine AWp.tok 2 fun tk1 htk1=>?_;refine seqR ?_;refine S BX (S BX ?_);refine s0 (assignNil (k':=2) rfl) rfl ?_;refine nil ?_;refine seqR ?_;refine S As ?_;refine nil ?_;refine AWp.nilTok 5 2 tk1 rfl hpG ?_;refine seqJH KeepsT.nil (fun(z:(Sl TFault))=>[(5,.a (.d (Sl.d 2 TFault.c (some tk1) z)))]) (fun z=>(H.set tk1 (some (.tok 2 z.l.length)))) (fun z=>Z56_j3 z=some r) ?_ ?_
 ·intro K3 hK3;refine seqR ?_;refine S As ?_;refine nil ?_;refine block ?_;refine loopH (TA 2 (TA 3 KeepsT.nil)) (fun(z:Nat×(Sl TFault)×Nat)=>[(5,.a (.d (Sl.d 2 TFault.c (some tk1) z.2.1))),(6,.a (.d (.int .i64 ((z.2.2:Nat):Int))))]) (fun z=>(H.set tk1 (some (.tok 2 z.2.1.l.length)))) (fun z=>z.1) (fun z=>Z56_l7 a0 a1 z.1 z.2.1 z.2.2=some r) ((a1.FFields.l.length+1),(Sl.nil:Sl TFault),0) hE Weak.toA ?_
  rintro ⟨n7,s5_8,s6_9⟩ hE K7 hK7;try dsimp only at hE
  cases n7 with
  | zero=>cases hE
  | succ n7 =>
    rw [Z56_l7] at hE;refine seqK fun K10 hK10=>?_;refine seqR ?_;refine S Mv (S Fv (S Ld ?_));refine sLen (f:=TField.c) (s:=a1.FFields) (TK rfl) rfl rfl rfl rfl fun hL12=>?_;refine S BI ?_;refine nil ?_;refine cE hE (fun hc13 hE=>?_) (fun hc13 hE=>?_)
    ·try dsimp only at hc13
     have hf13:=of_decide_eq_true hc13;refine sk hK10 ?_;clear hK10 K10;refine seqJH (TA 2 (TA 3 (TA 6 KeepsT.nil))) (fun(z:(Sl TFault))=>[(5,.a (.d (Sl.d 2 TFault.c (some tk1) z)))]) (fun z=>(H.set tk1 (some (.tok 2 z.l.length)))) (fun z=>Z56_j14 s6_9 ((Z56_l7 a0 a1 n7)) z=some r) ?_ ?_
     ·intro K14 hK14;refine block ?_;refine seqR ?_;refine S Fv (S Ld (S Mv ?_));obtain⟨x17,gx17,hE⟩:=bO hE;refine s0 (idxMn (f:=TField.c) (n:=s6_9) (TK rfl) rfl (TK rfl) rfl rfl rfl gx17) rfl ?_;refine S Ld ?_;refine Sl ?_;refine Sf ?_;refine nil ?_;refine freezeA 7 _ rfl (KA 2 (KA 3 (KA 5 (KA 6 Keeps.nil)))) ?_;refine seqR ?_;refine S Fv (S Ld ?_);obtain⟨x19,gx19,hE⟩:=bO hE;refine s0 (catM rfl rfl gx19) rfl ?_
      refine S Fv (S Ld ?_);obtain⟨x20,gx20,hE⟩:=bO hE;refine s0 (catM rfl rfl gx20) rfl ?_;refine S As ?_;refine nil ?_;refine AWp.seqD ?_;refine Sd Fv (Sd Ld (Sd Mv ?_));obtain⟨x22,gx22,hE⟩:=bO hE;refine DOps.s0 (partM (f:=TField.c) (l:=none) (r:=(some ((s6_9:Nat):Int))) (TK rfl) rfl (TK rfl) rfl rfl trivial rfl gx22) rfl ?_;refine Sd BU (Sd Fv (Sd Ld ?_));obtain⟨x23,gx23,hE⟩:=bO hE;refine DOps.s0 (callP rfl rfl (fun H=>Z44_walk gx23 H)) rfl ?_
      refine Sd Mv (Sd EX (Sd EX ?_));refine DOps.sB (TK rfl) rfl rfl ?_ (by repeat (first|exact Snoc.nil|apply Snoc.cons));refine DOps.sLn (storeLFA (TK rfl) rfl rfl rfl rfl rfl) ?_;refine Sd As ?_;refine DOps.nil (by decide +kernel) ?_;refine freezeA 9 _ rfl (KA 2 (KA 3 (KA 5 (KA 6 (KA 7 (KA 8 (KA 10 Keeps.nil))))))) ?_;refine seqR ?_;refine S Mv (S Fv (S Ld (S Mv (S Mv ?_))));obtain⟨x25,gx25,hE⟩:=bO hE
      refine Sc rfl rfl (Z61_walk gx25) ?_;obtain⟨x26,gx26,hE⟩:=bO hE;refine sH (appM (f:=TFault.c) (TK rfl) rfl (TK rfl) (TK rfl) ⟨_,rfl⟩ rfl rfl (by decide) rfl rfl rfl rfl hpG rfl gx26) rfl ?_;refine hq (H.set tk1 (some (.tok 2 x26.l.length))) ?_;refine S As ?_;refine nil ?_;refine seqR ?_;refine S Ld (S Fv (S Fv (S Ld ?_)));obtain⟨x28,gx28,hE⟩:=bO hE;refine Sc rfl rfl (Z45_walk gx28) ?_;refine S Mv (S EX (S EX ?_))
      refine Sl ?_;refine Sf ?_;refine S As ?_;refine nil ?_;refine freezeA 11 _ rfl (KA 2 (KA 3 (KA 5 (KA 6 (KA 7 (KA 8 (KA 12 Keeps.nil))))))) ?_;refine seqJH (TA 2 (TA 3 (TA 6 (TA 7 (TA 8 KeepsT.nil))))) (fun(z:(Sl TFault))=>[(5,.a (.d (Sl.d 2 TFault.c (some tk1) z)))]) (fun z=>(H.set tk1 (some (.tok 2 z.l.length)))) (fun z=>Z56_j29 a0 s6_9 x17 x20 ((Z56_l7 a0 a1 n7)) z=some r) ?_ ?_
      ·intro K29 hK29;refine seqR ?_;refine S Ld (S Fv (S Fv (S Ld ?_)));obtain⟨x35,gx35,hE⟩:=bO hE;refine Sc rfl rfl (Z59_walk gx35) ?_;refine S NB ?_;refine nil ?_;refine cE hE (fun hc36 hE=>?_) (fun hc36 hE=>?_)
       ·refine region ?_;refine S Mv (S Mv (S BU (S BV ?_)));obtain⟨x37,gx37,hE⟩:=bO hE;refine sH (appM (f:=TFault.c) (TK rfl) rfl (TK rfl) (TK rfl) ⟨_,rfl⟩ rfl rfl (by decide) rfl rfl rfl rfl hpG rfl gx37) rfl ?_;refine hq (H.set tk1 (some (.tok 2 x37.l.length))) ?_;refine S As ?_;refine nil ?_;exact hK29 _ x37 Weak.toA hE
       refine seqR ?_;refine S Fv (S Fv (S Ld ?_));obtain⟨x39,gx39,hE⟩:=bO hE;refine Sc rfl rfl (Z51_walk gx39) ?_;refine S NB (S Mv (g0 Mv (S PA (S Mv (g0 Fv ?_)))));refine g1 77 rfl Ld ?_;refine g1 78 rfl BI ?_;refine S PA ?_;refine nil ?_;refine cE hE (fun hc40 hE=>?_) (fun hc40 hE=>?_)
       ·refine region ?_;refine S Mv (S Mv (S BU (S BV ?_)));obtain⟨x41,gx41,hE⟩:=bO hE;refine sH (appM (f:=TFault.c) (TK rfl) rfl (TK rfl) (TK rfl) ⟨_,rfl⟩ rfl rfl (by decide) rfl rfl rfl rfl hpG rfl gx41) rfl ?_;refine hq (H.set tk1 (some (.tok 2 x41.l.length))) ?_;refine S As ?_;refine nil ?_;exact hK29 _ x41 Weak.toA hE
       refine AWp.skip ?_;exact hK29 _ x26 Weak.toA hE
      rintro s5_30 hE;try dsimp only at hE
      unfold Z56_j29 at hE;refine region ?_;refine S Mv (S Ld (S Fv (S Ld (S Mv ?_))));obtain⟨x31,gx31,hE⟩:=bO hE;refine s0 (catM rfl rfl gx31) rfl ?_;obtain⟨x32,gx32,hE⟩:=bO hE;refine Sc rfl rfl (Z58_walk gx32) ?_;obtain⟨x33,gx33,hE⟩:=bO hE;refine sH (appM (f:=TFault.c) (TK rfl) rfl (TK rfl) (TK rfl) ⟨_,rfl⟩ rfl rfl (by decide) rfl rfl rfl rfl hpG rfl gx33) rfl ?_;refine hq (H.set tk1 (some (.tok 2 x33.l.length))) ?_
      refine S As ?_;refine nil ?_;exact hK14 _ x33 Weak.toA hE
     rintro s5_15 hE;try dsimp only at hE
     unfold Z56_j14 at hE;refine region ?_;refine S Mv ?_;refine SI ?_;refine S As ?_;refine nil ?_;exact hK7 _ (n7,s5_15,(s6_9+1)) Weak.toA hE (Nat.lt_succ_self _)
    refine AWp.exit ?_;exact hK3 _ s5_8 Weak.toA hE
 rintro s5_4 hE;try dsimp only at hE
 unfold Z56_j3 at hE;refine seqR ?_;refine S Mv (S As ?_);refine nil ?_;refine AWp.dropTok 4 rfl ?_;refine AWp.ret ?_;repeat (first|refine xBlock_ret ?_|refine xThen_ret ?_)
 obtain rfl:=Option.some.inj hE;refine retQ.retF H rfl ⟨rfl,rfl⟩ ?_
 first|exact Heap.sub_set htk1|(simp only [Heap.set_set]; exact Heap.sub_set htk1)
def Z60_j3  (s3_4:(Sl TFault)):Option (Sl TFault):=some s3_4
def Z60_j14 (s4_9:Nat) (k_next_7:(Sl TFault)->Nat->Option (Sl TFault)) (s3_15:(Sl TFault)):Option (Sl TFault):=k_next_7 s3_15 (s4_9+1)
def Z60_j19 (a0:TDef) (s3_8:(Sl TFault)) (s4_9:Nat) (x17:TMember) (k_next_7:(Sl TFault)->Nat->Option (Sl TFault)) (s6_20:Bool):Option (Sl TFault):=(catC a0.FName ([46]:Bs)).bind fun x21=>(catC x21 x17.FName).bind fun x22=>(Z61 x17.FName ((((x17.FName==([116,114,117,101]:Bs)))||((x17.FName==([102,97,108,115,101]:Bs))))||((x17.FName==([110,117,108,108]:Bs)))) s6_20 x22).bind fun x23=>(appC 24 s3_8 x23).bind fun x24=>Z60_j14 s4_9 k_next_7 x24
def Z60_l26 (a0:TDef) (s3_8:(Sl TFault)) (s4_9:Nat) (x17:TMember) (k_next_7:(Sl TFault)->Nat->Option (Sl TFault)):Nat->Bool->Nat->Option (Sl TFault)
 | 0,_,_=>none
 | n26+1,s6_27,s7_28=>bif (decide (((s7_28:Nat):Int)<((s4_9:Nat):Int))) then(guardO (!s6_27) (a0.FMembers.l[s7_28]?) TMember.zero fun x33=>(Z60_l26 a0 s3_8 s4_9 x17 k_next_7 n26) (s6_27||((x33.FName==x17.FName))) (s7_28+1)) else(Z60_j19 a0 s3_8 s4_9 x17 k_next_7 s6_27)
def Z60_l7 (a0:TDef) :Nat->(Sl TFault)->Nat->Option (Sl TFault)
 | 0,_,_=>none
 | n7+1,s3_8,s4_9=>bif (decide (((s4_9:Nat):Int)<((a0.FMembers.l.length:Nat):Int))) then((a0.FMembers.l[s4_9]?).bind fun x17=>Z60_l26 a0 s3_8 s4_9 x17 ((Z60_l7 a0 n7)) (s4_9+1) false 0) else(Z60_j3   s3_8)
def Z60 (a0:TDef):Option (Sl TFault):=Z60_l7 a0 (a0.FMembers.l.length+1) (Sl.nil:Sl TFault) 0
theorem Z60_walk {a0:TDef}{r:Sl TFault}(hE:Z60 a0=some r) (H:Heap) :ACalls Tryz.prog 34 [.agg (TDef.c a0)] H fun v h'=>v=.a (.d (Sl.d 2 TFault.c none r))/\h'=H:=by
 unfold Z60 at hE;refine ACalls.oW 58 [.tmp 2] Tryz.call34 Tryz.func34 ?_;refine AWp.tok 2 fun tk1 htk1=>?_;refine seqR ?_;refine S BX ?_;refine s0 (assignNil (k':=2) rfl) rfl ?_;refine nil ?_;refine seqR ?_;refine S As ?_;refine nil ?_;refine AWp.nilTok 3 2 tk1 rfl hpG ?_;refine seqJH KeepsT.nil (fun(z:(Sl TFault))=>[(3,.a (.d (Sl.d 2 TFault.c (some tk1) z)))]) (fun z=>(H.set tk1 (some (.tok 2 z.l.length)))) (fun z=>Z60_j3 z=some r) ?_ ?_
 ·intro K3 hK3;refine seqR ?_;refine S As ?_;refine nil ?_;refine block ?_;refine loopH (TA 1 KeepsT.nil) (fun(z:Nat×(Sl TFault)×Nat)=>[(3,.a (.d (Sl.d 2 TFault.c (some tk1) z.2.1))),(4,.a (.d (.int .i64 ((z.2.2:Nat):Int))))]) (fun z=>(H.set tk1 (some (.tok 2 z.2.1.l.length)))) (fun z=>z.1) (fun z=>Z60_l7 a0 z.1 z.2.1 z.2.2=some r) ((a0.FMembers.l.length+1),(Sl.nil:Sl TFault),0) hE Weak.toA ?_;rintro ⟨n7,s3_8,s4_9⟩ hE K7 hK7
  try dsimp only at hE
  cases n7 with
  | zero=>cases hE
  | succ n7 =>
    rw [Z60_l7] at hE;refine seqK fun K10 hK10=>?_;refine seqR ?_;refine S Mv (S Fv (S Ld ?_));refine sLen (f:=TMember.c) (s:=a0.FMembers) (TK rfl) rfl rfl rfl rfl fun hL12=>?_;refine S BI ?_;refine nil ?_;refine cE hE (fun hc13 hE=>?_) (fun hc13 hE=>?_)
    ·try dsimp only at hc13
     have hf13:=of_decide_eq_true hc13;refine sk hK10 ?_;clear hK10 K10;refine seqJH (TA 1 (TA 4 KeepsT.nil)) (fun(z:(Sl TFault))=>[(3,.a (.d (Sl.d 2 TFault.c (some tk1) z)))]) (fun z=>(H.set tk1 (some (.tok 2 z.l.length)))) (fun z=>Z60_j14 s4_9 ((Z60_l7 a0 n7)) z=some r) ?_ ?_
     ·intro K14 hK14;refine block ?_;refine seqR ?_;refine S Fv (S Ld (S Mv ?_));obtain⟨x17,gx17,hE⟩:=bO hE;refine s0 (idxMn (f:=TMember.c) (n:=s4_9) (TK rfl) rfl (TK rfl) rfl rfl rfl gx17) rfl ?_;refine S Fv (S Ld (S As ?_));refine nil ?_;refine seqR ?_;refine S As ?_;refine nil ?_;refine seqJH (TA 1 (TA 3 (TA 4 (TA 5 KeepsT.nil)))) (fun(z:Bool)=>[(6,.a (.d (.bool z)))]) (fun z=>(H.set tk1 (some (.tok 2 s3_8.l.length)))) (fun z=>Z60_j19 a0 s3_8 s4_9 x17 ((Z60_l7 a0 n7)) z=some r) ?_ ?_
      ·intro K19 hK19;refine seqR ?_;refine S As ?_;refine nil ?_;refine block ?_;refine loopH (TA 1 (TA 3 (TA 4 (TA 5 KeepsT.nil)))) (fun(z:Nat×Bool×Nat)=>[(6,.a (.d (.bool z.2.1))),(7,.a (.d (.int .i64 ((z.2.2:Nat):Int))))]) (fun z=>(H.set tk1 (some (.tok 2 s3_8.l.length)))) (fun z=>z.1) (fun z=>Z60_l26 a0 s3_8 s4_9 x17 ((Z60_l7 a0 n7)) z.1 z.2.1 z.2.2=some r) ((s4_9+1),false,0) hE Weak.toA ?_;rintro ⟨n26,s6_27,s7_28⟩ hE K26 hK26
       try dsimp only at hE
       cases n26 with
       | zero=>cases hE
       | succ n26 =>
         rw [Z60_l26] at hE;refine seqK fun K29 hK29=>?_;refine seqR ?_;refine S Mv (S Mv (S BI ?_));refine nil ?_;refine cE hE (fun hc31 hE=>?_) (fun hc31 hE=>?_)
         ·try dsimp only at hc31
          have hf31:=of_decide_eq_true hc31;refine sk hK29 ?_;clear hK29 K29;refine seqK fun K32 hK32=>?_;refine block ?_;refine region ?_;refine S Mv (S Mv (g0 Fv ?_));refine g1 28 rfl Ld ?_;refine g0 Mv ?_;obtain⟨x33,gx33,hE⟩:=gO hE;refine gC rfl rfl (fun hC=>ungdA (k:=29) rfl (ungdA (k:=30) rfl (idxMn (f:=TMember.c) (n:=s7_28) (TK rfl) rfl (TK rfl) rfl rfl rfl (gx33 hC)))) rfl ?_;refine g1 31 rfl Fv ?_
          refine g1 32 rfl Ld ?_;refine g0 Mv ?_;refine g2 33 34 rfl rfl BS ?_;refine S PO (S As ?_);refine nil ?_;refine hK32 _ ?_;clear hK32 K32;refine region ?_;refine S Mv ?_;refine SI ?_;refine S As ?_;refine nil ?_;exact hK26 _ (n26,(s6_27||((x33.FName==x17.FName))),(s7_28+1)) Weak.toA hE (Nat.lt_succ_self _)
         refine AWp.exit ?_;exact hK19 _ s6_27 Weak.toA hE
      rintro s6_20 hE;try dsimp only at hE
      unfold Z60_j19 at hE;refine region ?_;refine S Mv (S Mv (S Mv (S BS (S Mv (g0 Mv ?_)))));refine g1 42 rfl BS ?_;refine S PO (S Mv (g0 Mv ?_));refine g1 46 rfl BS ?_;refine S PO (S Mv (S Fv (S Ld ?_)));obtain⟨x21,gx21,hE⟩:=bO hE;refine s0 (catM rfl rfl gx21) rfl ?_;refine S Mv ?_;obtain⟨x22,gx22,hE⟩:=bO hE;refine s0 (catM rfl rfl gx22) rfl ?_;obtain⟨x23,gx23,hE⟩:=bO hE;refine Sc rfl rfl (Z61_walk gx23) ?_
      obtain⟨x24,gx24,hE⟩:=bO hE;refine sH (appM (f:=TFault.c) (TK rfl) rfl (TK rfl) (TK rfl) ⟨_,rfl⟩ rfl rfl (by decide) rfl rfl rfl rfl hpG rfl gx24) rfl ?_;refine hq (H.set tk1 (some (.tok 2 x24.l.length))) ?_;refine S As ?_;refine nil ?_;exact hK14 _ x24 Weak.toA hE
     rintro s3_15 hE;try dsimp only at hE
     unfold Z60_j14 at hE;refine region ?_;refine S Mv ?_;refine SI ?_;refine S As ?_;refine nil ?_;exact hK7 _ (n7,s3_15,(s4_9+1)) Weak.toA hE (Nat.lt_succ_self _)
    refine AWp.exit ?_;exact hK3 _ s3_8 Weak.toA hE
 rintro s3_4 hE;try dsimp only at hE
 unfold Z60_j3 at hE;refine seqR ?_;refine S Mv (S As ?_);refine nil ?_;refine AWp.dropTok 2 rfl ?_;refine AWp.ret ?_;repeat (first|refine xBlock_ret ?_|refine xThen_ret ?_)
 obtain rfl:=Option.some.inj hE;refine retQ.retF H rfl ⟨rfl,rfl⟩ ?_
 first|exact Heap.sub_set htk1|(simp only [Heap.set_set]; exact Heap.sub_set htk1)
def Z41_j7  (s5_8:(Sl TFault)):Option (Sl TFault):=some s5_8
def Z41_j3 (a0:TDoc) (a1:Bool)  (s5_4:(Sl TFault)):Option (Sl TFault):=(Z45 a0 ([81,117,101,114,121]:Bs)).bind fun x6=>bif (a1&&(!x6.2)) then((appC 24 s5_4 (⟨false,[(TFault.mk (30:Int) ([81,117,101,114,121]:Bs))]⟩:Sl TFault)).bind fun x12=>Z41_j7   x12) else(Z41_j7   s5_4)
def Z41_j21 (s6_16:Nat) (k_next_14:(Sl TFault)->Nat->Option (Sl TFault)) (s5_22:(Sl TFault)):Option (Sl TFault):=k_next_14 s5_22 (s6_16+1)
def Z41_j29 (a0:TDoc) (s6_16:Nat) (x24:TDef) (x27:(Sl TFault)) (k_next_14:(Sl TFault)->Nat->Option (Sl TFault)) (s29_30:Bool):Option (Sl TFault):=bif s29_30 then((Z56 a0 x24).bind fun x32=>(appC 24 x27 x32).bind fun x33=>Z41_j21 s6_16 k_next_14 x33) else(bif (decide (x24.FKind=(4:Int))) then((Z60 x24).bind fun x36=>(appC 24 x27 x36).bind fun x37=>Z41_j21 s6_16 k_next_14 x37) else(bif (decide (x24.FKind=(5:Int))) then((catC x24.FName ([46]:Bs)).bind fun x40=>(Z58 a0 x24.FInputs x40 ([]:Bs)).bind fun x41=>(appC 24 x27 x41).bind fun x42=>Z41_j21 s6_16 k_next_14 x42) else(Z41_j21 s6_16 k_next_14 x27)))
def Z41_l14 (a0:TDoc) (a1:Bool) :Nat->(Sl TFault)->Nat->Option (Sl TFault)
 | 0,_,_=>none
 | n14+1,s5_15,s6_16=>bif (decide (((s6_16:Nat):Int)<((a0.FDefs.l.length:Nat):Int))) then((a0.FDefs.l[s6_16]?).bind fun x24=>(Z63 a0 ((s6_16:Nat):Int)).bind fun x26=>(appC 24 s5_15 x26).bind fun x27=>bif (decide (x24.FKind=(1:Int))) then(Z41_j29 a0 s6_16 x24 x27 ((Z41_l14 a0 a1 n14)) (decide (x24.FKind=(1:Int)))) else(Z41_j29 a0 s6_16 x24 x27 ((Z41_l14 a0 a1 n14)) (decide (x24.FKind=(2:Int))))) else(Z41_j3 a0 a1  s5_15)
def Z41 (a0:TDoc) (a1:Bool):Option (Sl TFault):=Z41_l14 a0 a1 (a0.FDefs.l.length+1) (Sl.nil:Sl TFault) 0
theorem Z41_walk {a0:TDoc}{a1:Bool}{r:Sl TFault}(hE:Z41 a0 a1=some r) (H:Heap) :ACalls Tryz.prog 14 [.agg (TDoc.c a0),.d (.bool a1)] H fun v h'=>v=.a (.d (Sl.d 2 TFault.c none r))/\h'=H:=by
 unfold Z41 at hE;refine ACalls.oW 69 [.tmp 4] Tryz.call14 Tryz.func14 ?_;refine AWp.tok 2 fun tk1 htk1=>?_;refine seqR ?_;refine S BX ?_;refine s0 (assignNil (k':=2) rfl) rfl ?_;refine nil ?_;refine seqR ?_;refine S As ?_;refine nil ?_;refine AWp.nilTok 5 2 tk1 rfl hpG ?_;refine seqJH (TA 1 (TA 2 KeepsT.nil)) (fun(z:(Sl TFault))=>[(5,.a (.d (Sl.d 2 TFault.c (some tk1) z)))]) (fun z=>(H.set tk1 (some (.tok 2 z.l.length)))) (fun z=>Z41_j3 a0 a1 z=some r) ?_ ?_
 ·intro K3 hK3;refine seqR ?_;refine S As ?_;refine nil ?_;refine block ?_;refine loopH (TA 1 (TA 2 KeepsT.nil)) (fun(z:Nat×(Sl TFault)×Nat)=>[(5,.a (.d (Sl.d 2 TFault.c (some tk1) z.2.1))),(6,.a (.d (.int .i64 ((z.2.2:Nat):Int))))]) (fun z=>(H.set tk1 (some (.tok 2 z.2.1.l.length)))) (fun z=>z.1) (fun z=>Z41_l14 a0 a1 z.1 z.2.1 z.2.2=some r) ((a0.FDefs.l.length+1),(Sl.nil:Sl TFault),0) hE Weak.toA ?_
  rintro ⟨n14,s5_15,s6_16⟩ hE K14 hK14;try dsimp only at hE
  cases n14 with
  | zero=>cases hE
  | succ n14 =>
    rw [Z41_l14] at hE;refine seqK fun K17 hK17=>?_;refine seqR ?_;refine S Mv (S Fv (S Ld ?_));refine sLen (f:=TDef.c) (s:=a0.FDefs) (TK rfl) rfl rfl rfl rfl fun hL19=>?_;refine S BI ?_;refine nil ?_;refine cE hE (fun hc20 hE=>?_) (fun hc20 hE=>?_)
    ·try dsimp only at hc20
     have hf20:=of_decide_eq_true hc20;refine sk hK17 ?_;clear hK17 K17;refine seqJH (TA 1 (TA 2 (TA 6 KeepsT.nil))) (fun(z:(Sl TFault))=>[(5,.a (.d (Sl.d 2 TFault.c (some tk1) z)))]) (fun z=>(H.set tk1 (some (.tok 2 z.l.length)))) (fun z=>Z41_j21 s6_16 ((Z41_l14 a0 a1 n14)) z=some r) ?_ ?_
     ·intro K21 hK21;refine block ?_;refine seqR ?_;refine S Fv (S Ld (S Mv ?_));obtain⟨x24,gx24,hE⟩:=bO hE;refine s0 (idxMn (f:=TDef.c) (n:=s6_16) (TK rfl) rfl (TK rfl) rfl rfl rfl gx24) rfl ?_;refine S Ld ?_;refine Sl ?_;refine Sf ?_;refine nil ?_;refine freezeA 7 _ rfl (KA 1 (KA 2 (KA 5 (KA 6 Keeps.nil)))) ?_;refine seqR ?_;refine S Mv (S Ld (S Mv ?_));obtain⟨x26,gx26,hE⟩:=bO hE;refine Sc rfl rfl (Z63_walk gx26) ?_
      obtain⟨x27,gx27,hE⟩:=bO hE;refine sH (appM (f:=TFault.c) (TK rfl) rfl (TK rfl) (TK rfl) ⟨_,rfl⟩ rfl rfl (by decide) rfl rfl rfl rfl hpG rfl gx27) rfl ?_;refine hq (H.set tk1 (some (.tok 2 x27.l.length))) ?_;refine S As ?_;refine nil ?_;refine seqR ?_;refine S Fv (S Ld ?_);refine nil ?_;refine block ?_;refine seqJH (TA 1 (TA 2 (TA 5 (TA 6 (TA 7 (TA 28 KeepsT.nil)))))) (fun(z:Bool)=>[(29,.a (.d (.bool z)))]) (fun z=>(H.set tk1 (some (.tok 2 x27.l.length)))) (fun z=>Z41_j29 a0 s6_16 x24 x27 ((Z41_l14 a0 a1 n14)) z=some r) ?_ ?_
      ·intro K29 hK29;refine seqR ?_;refine S BI (S As ?_);refine nil ?_;refine cE hE (fun hc44 hE=>?_) (fun hc44 hE=>?_)
       ·refine AWp.skip ?_;exact hK29 _ (decide (x24.FKind=(1:Int))) Weak.toA hE
       refine region ?_;refine S BI (S As ?_);refine nil ?_;exact hK29 _ (decide (x24.FKind=(2:Int))) Weak.toA hE
      rintro s29_30 hE;try dsimp only at hE
      unfold Z41_j29 at hE;refine cE hE (fun hc31 hE=>?_) (fun hc31 hE=>?_)
      ·refine region ?_;refine S Mv (S Ld (S Ld ?_));obtain⟨x32,gx32,hE⟩:=bO hE;refine Sc rfl rfl (Z56_walk gx32) ?_;obtain⟨x33,gx33,hE⟩:=bO hE;refine sH (appM (f:=TFault.c) (TK rfl) rfl (TK rfl) (TK rfl) ⟨_,rfl⟩ rfl rfl (by decide) rfl rfl rfl rfl hpG rfl gx33) rfl ?_;refine hq (H.set tk1 (some (.tok 2 x33.l.length))) ?_;refine S As ?_;refine nil ?_;exact hK21 _ x33 Weak.toA hE
      refine seqR ?_;refine S BI (S As ?_);refine nil ?_;refine cE hE (fun hc35 hE=>?_) (fun hc35 hE=>?_)
      ·refine region ?_;refine S Mv (S Ld ?_);obtain⟨x36,gx36,hE⟩:=bO hE;refine Sc rfl rfl (Z60_walk gx36) ?_;obtain⟨x37,gx37,hE⟩:=bO hE;refine sH (appM (f:=TFault.c) (TK rfl) rfl (TK rfl) (TK rfl) ⟨_,rfl⟩ rfl rfl (by decide) rfl rfl rfl rfl hpG rfl gx37) rfl ?_;refine hq (H.set tk1 (some (.tok 2 x37.l.length))) ?_;refine S As ?_;refine nil ?_;exact hK21 _ x37 Weak.toA hE
      refine seqR ?_;refine S BI (S As ?_);refine nil ?_;refine cE hE (fun hc39 hE=>?_) (fun hc39 hE=>?_)
      ·refine region ?_;refine S Mv (S Ld (S Fv (S Ld (S Fv (S Ld ?_)))));obtain⟨x40,gx40,hE⟩:=bO hE;refine s0 (catM rfl rfl gx40) rfl ?_;obtain⟨x41,gx41,hE⟩:=bO hE;refine Sc rfl rfl (Z58_walk gx41) ?_;obtain⟨x42,gx42,hE⟩:=bO hE;refine sH (appM (f:=TFault.c) (TK rfl) rfl (TK rfl) (TK rfl) ⟨_,rfl⟩ rfl rfl (by decide) rfl rfl rfl rfl hpG rfl gx42) rfl ?_;refine hq (H.set tk1 (some (.tok 2 x42.l.length))) ?_
       refine S As ?_;refine nil ?_;exact hK21 _ x42 Weak.toA hE
      refine AWp.skip ?_;exact hK21 _ x27 Weak.toA hE
     rintro s5_22 hE;try dsimp only at hE
     unfold Z41_j21 at hE;refine region ?_;refine S Mv ?_;refine SI ?_;refine S As ?_;refine nil ?_;exact hK14 _ (n14,s5_22,(s6_16+1)) Weak.toA hE (Nat.lt_succ_self _)
    refine AWp.exit ?_;exact hK3 _ s5_15 Weak.toA hE
 rintro s5_4 hE;try dsimp only at hE
 unfold Z41_j3 at hE;refine seqR ?_;refine S Ld ?_;obtain⟨x6,gx6,hE⟩:=bO hE;refine Sc rfl rfl (Z45_walk gx6) ?_;refine S Mv (S EX (S EX ?_));refine Sl ?_;refine Sf ?_;refine S As ?_;refine nil ?_;refine freezeA 8 _ rfl (KA 1 (KA 5 (KA 9 Keeps.nil))) ?_;refine seqJH KeepsT.nil (fun(z:(Sl TFault))=>[(5,.a (.d (Sl.d 2 TFault.c (some tk1) z)))]) (fun z=>(H.set tk1 (some (.tok 2 z.l.length)))) (fun z=>Z41_j7 z=some r) ?_ ?_
 ·intro K7 hK7;refine seqR ?_;refine S Mv (S Mv (g0 Mv ?_));refine g1 61 rfl NB ?_;refine S PA ?_;refine nil ?_;refine cE hE (fun hc11 hE=>?_) (fun hc11 hE=>?_)
  ·refine region ?_;refine S Mv (S BU (S BV ?_));obtain⟨x12,gx12,hE⟩:=bO hE;refine sH (appM (f:=TFault.c) (TK rfl) rfl (TK rfl) (TK rfl) ⟨_,rfl⟩ rfl rfl (by decide) rfl rfl rfl rfl hpG rfl gx12) rfl ?_;refine hq (H.set tk1 (some (.tok 2 x12.l.length))) ?_;refine S As ?_;refine nil ?_;exact hK7 _ x12 Weak.toA hE
  refine AWp.skip ?_;exact hK7 _ s5_4 Weak.toA hE
 rintro s5_8 hE;try dsimp only at hE
 unfold Z41_j7 at hE;refine seqR ?_;refine S Mv (S As ?_);refine nil ?_;refine AWp.dropTok 4 rfl ?_;refine AWp.ret ?_;repeat (first|refine xBlock_ret ?_|refine xThen_ret ?_)
 obtain rfl:=Option.some.inj hE;refine retQ.retF H rfl ⟨rfl,rfl⟩ ?_
 first|exact Heap.sub_set htk1|(simp only [Heap.set_set]; exact Heap.sub_set htk1)
def Z72 (a0:TDoc) (a1:Bs) (a2:Int):Option Int:=(Z45 a0 a1).bind fun x3=>guardO ((!x3.2)) (Z51 a1) false fun x6=>bif ((!x3.2)&&(!x6)) then(some (8:Int)) else(bif (!decide (x3.1.FKind=a2)) then(some (9:Int)) else(some (0:Int)))
theorem Z72_walk {a0:TDoc}{a1:Bs}{a2 r:Int}(hE:Z72 a0 a1 a2=some r) (H:Heap) :ACalls Tryz.prog 75 [.agg (TDoc.c a0),.d (.str a1),.d (.int .i64 a2)] H fun v h'=>v=.a (.d (.int .i64 r))/\h'=H:=by
 unfold Z72 at hE;refine ACalls.oW 26 [.tmp 6] Tryz.call75 Tryz.func75 ?_;refine seqR ?_;refine S BX (S As ?_);refine nil ?_;refine seqR ?_;refine S Ld (S Mv ?_);obtain⟨x3,gx3,hE⟩:=bO hE;refine Sc rfl rfl (Z45_walk gx3) ?_;refine S Mv (S EX (S EX ?_));refine Sl ?_;refine Sf ?_;refine S As ?_;refine nil ?_;refine freezeA 7 _ rfl (KA 1 (KA 2 (KA 8 Keeps.nil))) ?_;refine seqK fun K4 hK4=>?_;refine seqR ?_
 refine S Mv (S NB (S Mv (g0 Mv ?_)));obtain⟨x6,gx6,hE⟩:=gO hE;refine gc1 18 rfl rfl rfl rfl rfl (fun hC=>Z51_walk (gx6 hC)) ?_;refine g1 19 rfl NB ?_;refine S PA ?_;refine nil ?_;refine cE hE (fun hc7 hE=>?_) (fun hc7 hE=>?_)
 ·refine seqR ?_;refine S As ?_;refine nil ?_;exact rt hE
 refine sk hK4 ?_;clear hK4 K4;refine seqK fun K9 hK9=>?_;refine seqR ?_;refine S Fv (S Ld (S Mv (S BI ?_)));refine nil ?_;refine cE hE (fun hc11 hE=>?_) (fun hc11 hE=>?_)
 ·refine seqR ?_;refine S As ?_;refine nil ?_;exact rt hE
 refine sk hK9 ?_;clear hK9 K9;refine seqR ?_;refine S As ?_;refine nil ?_;exact rt hE
end Go.Proofs

namespace Go.Proofs
open Go Go.Ab
open AOps Cert AWp Keeps KeepsT
variable {lou:Lou}
def Z71_j2  :Option Bool:=some false
def Z71_l5 (a0:(Sl Bs)) (a1:Bs) :Nat->Nat->Option Bool
 | 0,_=>none
 | n5+1,s5_6=>bif (decide (((s5_6:Nat):Int)<((a0.l.length:Nat):Int))) then((a0.l[s5_6]?).bind fun x13=>bif ((x13==a1)) then(some true) else((Z71_l5 a0 a1 n5) (s5_6+1))) else(Z71_j2   )
def Z71 (a0:(Sl Bs)) (a1:Bs):Option Bool:=Z71_l5 a0 a1 (a0.l.length+1) 0
theorem Z71_walk {a0:Sl Bs}{a1:Bs}{w0:Option Nat}{r:Bool}(hE:Z71 a0 a1=some r) (H:Heap) :ACalls Tryz.prog 76 [.d (Sl.d 1 strE w0 a0),.d (.str a1)] H fun v h'=>v=.a (.d (.bool r))/\h'=H:=by
 unfold Z71 at hE;refine ACalls.oW 18 [.tmp 4] Tryz.call76 Tryz.func76 ?_;refine seqR ?_;refine S As ?_;refine nil ?_;refine seqJH KeepsT.nil (fun(z:Unit)=>[]) (fun z=>H) (fun z=>Z71_j2 =some r) ?_ ?_
 ·intro K2 hK2;refine seqR ?_;refine S As ?_;refine nil ?_;refine block ?_;refine loopH (TA 0 (TA 1 KeepsT.nil)) (fun(z:Nat×Nat)=>[(5,.a (.d (.int .i64 ((z.2:Nat):Int))))]) (fun z=>H) (fun z=>z.1) (fun z=>Z71_l5 a0 a1 z.1 z.2=some r) ((a0.l.length+1),0) hE Weak.toA ?_;rintro ⟨n5,s5_6⟩ hE K5 hK5;try dsimp only at hE
  cases n5 with
  | zero=>cases hE
  | succ n5 =>
    rw [Z71_l5] at hE;refine seqK fun K7 hK7=>?_;refine seqR ?_;refine S Mv (S Mv ?_);refine sLen (f:=strE) (s:=a0) (TK rfl) rfl rfl rfl rfl fun hL9=>?_;refine S BI ?_;refine nil ?_;refine cE hE (fun hc10 hE=>?_) (fun hc10 hE=>?_)
    ·try dsimp only at hc10
     have hf10:=of_decide_eq_true hc10;refine sk hK7 ?_;clear hK7 K7;refine seqK fun K11 hK11=>?_;refine block ?_;refine seqR ?_;refine S Mv (S Mv ?_);obtain⟨x13,gx13,hE⟩:=bO hE;refine s0 (idxMn (f:=strE) (n:=s5_6) (TK rfl) rfl (TK rfl) rfl rfl rfl gx13) rfl ?_;refine S Ld (S Mv (S BS ?_));refine nil ?_;refine cE hE (fun hc14 hE=>?_) (fun hc14 hE=>?_)
     ·refine seqR ?_;refine S As ?_;refine nil ?_;exact rt hE
     refine sk hK11 ?_;clear hK11 K11;refine region ?_;refine S Mv ?_;refine SI ?_;refine S As ?_;refine nil ?_;exact hK5 _ (n5,(s5_6+1)) Weak.toA hE (Nat.lt_succ_self _)
    refine AWp.exit ?_;exact hK2 _ () Weak.toA hE
 rintro _ hE;try dsimp only at hE
 unfold Z71_j2 at hE;refine seqR ?_;refine S As ?_;refine nil ?_;exact rt hE
def Z28 (a0:TRef):Option Bool:=guardO ((decide ((0:Int)<((a0.FWraps.l.length:Nat):Int)))) (a0.FWraps.l[0]?) (0:Int) fun x4=>some ((decide ((0:Int)<((a0.FWraps.l.length:Nat):Int)))&&(decide (x4=(1:Int))))
theorem Z28_walk {a0:TRef}{r:Bool}(hE:Z28 a0=some r) (H:Heap) :ACalls Tryz.prog 110 [.agg (TRef.c a0)] H fun v h'=>v=.a (.d (.bool r))/\h'=H:=by
 unfold Z28 at hE;refine ACalls.oW 14 [.tmp 2] Tryz.call110 Tryz.func110 ?_;refine seqR ?_;refine S BX (S As ?_);refine nil ?_;refine seqR ?_;refine S Fv (S Ld ?_);refine sLen (f:=(intE .i64)) (s:=a0.FWraps) (TK rfl) rfl rfl rfl rfl fun hL3=>?_;refine S BI (S Mv (g0 Fv ?_));refine g1 8 rfl Ld ?_;obtain⟨x4,gx4,hE⟩:=gO hE;refine gC rfl rfl (fun hC=>ungdA (k:=9) rfl (idxMn (f:=(intE .i64)) (n:=0) (TK rfl) rfl (TK rfl) rfl rfl rfl (gx4 hC))) rfl ?_
 refine g1 10 rfl Ld ?_;refine g1 11 rfl BI ?_;refine S PA (S As ?_);refine nil ?_;exact rt hE
def Z32 (a0:TRef):Option TRef:=(partC a0.FWraps (some (1:Int)) none).bind fun x3=>(appC 8 (⟨false,[]⟩:Sl Int) x3).bind fun x4=>some (TRef.mk a0.FName x4)
theorem Z32_walk {a0 r:TRef}(hE:Z32 a0=some r) (H:Heap) :ACalls Tryz.prog 144 [.agg (TRef.c a0)] H fun v h'=>v=.a (.agg (TRef.c r))/\h'=H:=by
 unfold Z32 at hE;refine ACalls.oW 11 [.cell 2 41] Tryz.call144 Tryz.func144 ?_;refine seqR ?_;refine S BX ?_;refine Sl ?_;refine nil ?_;refine AWp.seqD ?_;refine Sd Fv (Sd Ld ?_);refine DOps.s0 (buildSliceF (TK rfl) rfl (TK rfl) rfl rfl rfl rfl rfl rfl) rfl ?_;refine Sd Fv (Sd Ld ?_);obtain⟨x3,gx3,hE⟩:=bO hE;refine DOps.s0 (partM (f:=(intE .i64)) (l:=(some (1:Int))) (r:=none) (TK rfl) rfl (TK rfl) rfl rfl rfl trivial gx3) rfl ?_
 obtain⟨x4,gx4,hE⟩:=bO hE;refine DOps.s0 (appFM (f:=(intE .i64)) (TK rfl) rfl (TK rfl) (TK rfl) ⟨_,rfl⟩ rfl rfl (by decide) rfl rfl rfl (by intro q h; cases h<;>decide) rfl rfl gx4) rfl ?_;refine Sd BU ?_;refine DOps.sLn (storeLFA (TK rfl) rfl rfl rfl rfl rfl) ?_;refine DOps.nil (by decide +kernel) ?_;exact rt hE
def Z29 (a0:TRef):Option TRef:=(Z28 a0).bind fun x4=>bif x4 then((Z32 a0).bind fun x7=>some x7) else((appC 8 (⟨false,[]⟩:Sl Int) a0.FWraps).bind fun x9=>some (TRef.mk a0.FName x9))
theorem Z29_walk {a0 r:TRef}(hE:Z29 a0=some r) (H:Heap) :ACalls Tryz.prog 128 [.agg (TRef.c a0)] H fun v h'=>v=.a (.agg (TRef.c r))/\h'=H:=by
 unfold Z29 at hE;refine ACalls.oW 14 [.cell 2 41] Tryz.call128 Tryz.func128 ?_;refine seqR ?_;refine S BX ?_;refine Sl ?_;refine nil ?_;refine seqK fun K2 hK2=>?_;refine seqR ?_;refine S Ld ?_;obtain⟨x4,gx4,hE⟩:=bO hE;refine Sc rfl rfl (Z28_walk gx4) ?_;refine nil ?_;refine cE hE (fun hc5 hE=>?_) (fun hc5 hE=>?_)
 ·refine seqR ?_;refine S Ld ?_;obtain⟨x7,gx7,hE⟩:=bO hE;refine Sc rfl rfl (Z32_walk gx7) ?_;refine Sf ?_;refine nil ?_;exact rt hE
 refine sk hK2 ?_;clear hK2 K2;refine AWp.seqD ?_;refine Sd Fv (Sd Ld ?_);refine DOps.s0 (buildSliceF (TK rfl) rfl (TK rfl) rfl rfl rfl rfl rfl rfl) rfl ?_;refine Sd Fv (Sd Ld ?_);obtain⟨x9,gx9,hE⟩:=bO hE;refine DOps.s0 (appFM (f:=(intE .i64)) (TK rfl) rfl (TK rfl) (TK rfl) ⟨_,rfl⟩ rfl rfl (by decide) rfl rfl rfl (by intro q h; cases h<;>decide) rfl rfl gx9) rfl ?_;refine Sd BU ?_;refine DOps.sLn (storeLFA (TK rfl) rfl rfl rfl rfl rfl) ?_
 refine DOps.nil (by decide +kernel) ?_;exact rt hE
def Z27 (a0:TRef):Option Bool:=(Z29 a0).bind fun x3=>guardO ((decide ((0:Int)<((x3.FWraps.l.length:Nat):Int)))) (x3.FWraps.l[0]?) (0:Int) fun x6=>some ((decide ((0:Int)<((x3.FWraps.l.length:Nat):Int)))&&(decide (x6=(2:Int))))
theorem Z27_walk {a0:TRef}{r:Bool}(hE:Z27 a0=some r) (H:Heap) :ACalls Tryz.prog 145 [.agg (TRef.c a0)] H fun v h'=>v=.a (.d (.bool r))/\h'=H:=by
 unfold Z27 at hE;refine ACalls.oW 17 [.tmp 2] Tryz.call145 Tryz.func145 ?_;refine seqR ?_;refine S BX (S As ?_);refine nil ?_;refine seqR ?_;refine S Ld ?_;obtain⟨x3,gx3,hE⟩:=bO hE;refine Sc rfl rfl (Z29_walk gx3) ?_;refine Sl ?_;refine Sf ?_;refine nil ?_;refine freezeA 3 _ rfl Keeps.nil ?_;refine seqR ?_;refine S Fv (S Ld ?_);refine sLen (f:=(intE .i64)) (s:=x3.FWraps) (TK rfl) rfl rfl rfl rfl fun hL5=>?_
 refine S BI (S Mv (g0 Fv ?_));refine g1 11 rfl Ld ?_;obtain⟨x6,gx6,hE⟩:=gO hE;refine gC rfl rfl (fun hC=>ungdA (k:=12) rfl (idxMn (f:=(intE .i64)) (n:=0) (TK rfl) rfl (TK rfl) rfl rfl rfl (gx6 hC))) rfl ?_;refine g1 13 rfl Ld ?_;refine g1 14 rfl BI ?_;refine S PA (S As ?_);refine nil ?_;exact rt hE
def Z26 (a0:TRef):Option (TRef×Bool):=(Z27 a0).bind fun x4=>bif (!x4) then(some ((TRef.mk ([]:Bs) (Sl.nil:Sl Int)),false)) else((Z29 a0).bind fun x8=>(Z32 x8).bind fun x9=>some (x9,true))
theorem Z26_walk {a0:TRef}{r:TRef×Bool}(hE:Z26 a0=some r) (H:Heap) :ACalls Tryz.prog 129 [.agg (TRef.c a0)] H fun v h'=>v=.tup [.agg (TRef.c r.1),.d (.bool r.2)]/\h'=H:=by
 unfold Z26 at hE;refine ACalls.oW 11 [.cell 2 41,.tmp 3] Tryz.call129 Tryz.func129 ?_;refine seqR ?_;refine S BX ?_;refine Sl ?_;refine S As ?_;refine nil ?_;refine seqK fun K2 hK2=>?_;refine seqR ?_;refine S Ld ?_;obtain⟨x4,gx4,hE⟩:=bO hE;refine Sc rfl rfl (Z27_walk gx4) ?_;refine S NB ?_;refine nil ?_;refine cE hE (fun hc5 hE=>?_) (fun hc5 hE=>?_)
 ·refine seqR ?_;refine S BU ?_;refine Sf ?_;refine S As ?_;refine nil ?_;exact rt hE
 refine sk hK2 ?_;clear hK2 K2;refine seqR ?_;refine S Ld ?_;obtain⟨x8,gx8,hE⟩:=bO hE;refine Sc rfl rfl (Z29_walk gx8) ?_;obtain⟨x9,gx9,hE⟩:=bO hE;refine Sc rfl rfl (Z32_walk gx9) ?_;refine Sf ?_;refine S As ?_;refine nil ?_;exact rt hE
def Z73_j2  :Option Bool:=some false
def Z73_l5 (a0:TDef) (a1:Bs) :Nat->Nat->Option Bool
 | 0,_=>none
 | n5+1,s5_6=>bif (decide (((s5_6:Nat):Int)<((a0.FMembers.l.length:Nat):Int))) then((a0.FMembers.l[s5_6]?).bind fun x13=>bif ((x13.FName==a1)) then(some true) else((Z73_l5 a0 a1 n5) (s5_6+1))) else(Z73_j2   )
def Z73 (a0:TDef) (a1:Bs):Option Bool:=Z73_l5 a0 a1 (a0.FMembers.l.length+1) 0
theorem Z73_walk {a0:TDef}{a1:Bs}{r:Bool}(hE:Z73 a0 a1=some r) (H:Heap) :ACalls Tryz.prog 78 [.agg (TDef.c a0),.d (.str a1)] H fun v h'=>v=.a (.d (.bool r))/\h'=H:=by
 unfold Z73 at hE;refine ACalls.oW 21 [.tmp 4] Tryz.call78 Tryz.func78 ?_;refine seqR ?_;refine S BX (S As ?_);refine nil ?_;refine seqJH KeepsT.nil (fun(z:Unit)=>[]) (fun z=>H) (fun z=>Z73_j2 =some r) ?_ ?_
 ·intro K2 hK2;refine seqR ?_;refine S As ?_;refine nil ?_;refine block ?_;refine loopH (TA 1 (TA 2 KeepsT.nil)) (fun(z:Nat×Nat)=>[(5,.a (.d (.int .i64 ((z.2:Nat):Int))))]) (fun z=>H) (fun z=>z.1) (fun z=>Z73_l5 a0 a1 z.1 z.2=some r) ((a0.FMembers.l.length+1),0) hE Weak.toA ?_;rintro ⟨n5,s5_6⟩ hE K5 hK5;try dsimp only at hE
  cases n5 with
  | zero=>cases hE
  | succ n5 =>
    rw [Z73_l5] at hE;refine seqK fun K7 hK7=>?_;refine seqR ?_;refine S Mv (S Fv (S Ld ?_));refine sLen (f:=TMember.c) (s:=a0.FMembers) (TK rfl) rfl rfl rfl rfl fun hL9=>?_;refine S BI ?_;refine nil ?_;refine cE hE (fun hc10 hE=>?_) (fun hc10 hE=>?_)
    ·try dsimp only at hc10
     have hf10:=of_decide_eq_true hc10;refine sk hK7 ?_;clear hK7 K7;refine seqK fun K11 hK11=>?_;refine block ?_;refine seqR ?_;refine S Fv (S Ld (S Mv ?_));obtain⟨x13,gx13,hE⟩:=bO hE;refine s0 (idxMn (f:=TMember.c) (n:=s5_6) (TK rfl) rfl (TK rfl) rfl rfl rfl gx13) rfl ?_;refine S Fv (S Ld (S Mv (S BS ?_)));refine nil ?_;refine cE hE (fun hc14 hE=>?_) (fun hc14 hE=>?_)
     ·refine seqR ?_;refine S As ?_;refine nil ?_;exact rt hE
     refine sk hK11 ?_;clear hK11 K11;refine region ?_;refine S Mv ?_;refine SI ?_;refine S As ?_;refine nil ?_;exact hK5 _ (n5,(s5_6+1)) Weak.toA hE (Nat.lt_succ_self _)
    refine AWp.exit ?_;exact hK2 _ () Weak.toA hE
 rintro _ hE;try dsimp only at hE
 unfold Z73_j2 at hE;refine seqR ?_;refine S As ?_;refine nil ?_;exact rt hE
def Z70_j2  :Option Bool:=some true
def Z70_l5 (a0:TDoc) (a1:Int) :Nat->Int->Option Bool
 | 0,_=>none
 | n5+1,s5_6=>bif (decide (s5_6<a1)) then((idxC a0.FDefs.l s5_6).bind fun x12=>(idxC a0.FDefs.l a1).bind fun x13=>bif ((x12.FName==x13.FName)) then(some false) else((addC s5_6 (1:Int)).bind fun x16=>(Z70_l5 a0 a1 n5) x16)) else(Z70_j2   )
def Z70 (a0:TDoc) (a1:Int):Option Bool:=Z70_l5 a0 a1 F0 (0:Int)
theorem Z70_walk {a0:TDoc}{a1:Int}{r:Bool}(hE:Z70 a0 a1=some r) (H:Heap) :ACalls Tryz.prog 146 [.agg (TDoc.c a0),.d (.int .i64 a1)] H fun v h'=>v=.a (.d (.bool r))/\h'=H:=by
 unfold Z70 at hE;refine ACalls.oW 24 [.tmp 4] Tryz.call146 Tryz.func146 ?_;refine seqR ?_;refine S BX (S As ?_);refine nil ?_;refine seqJH KeepsT.nil (fun(z:Unit)=>[]) (fun z=>H) (fun z=>Z70_j2 =some r) ?_ ?_
 ·intro K2 hK2;refine seqR ?_;refine S As ?_;refine nil ?_;refine block ?_;refine loopH (TA 1 (TA 2 KeepsT.nil)) (fun(z:Nat×Int)=>[(5,.a (.d (.int .i64 z.2)))]) (fun z=>H) (fun z=>z.1) (fun z=>Z70_l5 a0 a1 z.1 z.2=some r) (F0,(0:Int)) hE Weak.toA ?_;rintro ⟨n5,s5_6⟩ hE K5 hK5;try dsimp only at hE
  cases n5 with
  | zero=>cases hE
  | succ n5 =>
    rw [Z70_l5] at hE;refine seqK fun K7 hK7=>?_;refine seqR ?_;refine S Mv (S Mv (S BI ?_));refine nil ?_;refine cE hE (fun hc9 hE=>?_) (fun hc9 hE=>?_)
    ·refine sk hK7 ?_;clear hK7 K7;refine seqK fun K10 hK10=>?_;refine block ?_;refine AWp.seqD ?_;refine Sd Fv (Sd Ld (Sd Mv ?_));obtain⟨x12,gx12,hE⟩:=bO hE;refine DOps.s0 (idxM (f:=TDef.c) (TK rfl) rfl (TK rfl) rfl rfl rfl gx12) rfl ?_;refine Sd Fv (Sd Ld (Sd Fv (Sd Ld (Sd Mv ?_))));obtain⟨x13,gx13,hE⟩:=bO hE;refine DOps.s0 (idxM (f:=TDef.c) (TK rfl) rfl (TK rfl) rfl rfl rfl gx13) rfl ?_;refine Sd Fv (Sd Ld (Sd BS ?_))
     refine DOps.nil (by decide +kernel) ?_;refine cE hE (fun hc14 hE=>?_) (fun hc14 hE=>?_)
     ·refine seqR ?_;refine S As ?_;refine nil ?_;exact rt hE
     refine sk hK10 ?_;clear hK10 K10;refine region ?_;refine S Mv ?_;obtain⟨x16,gx16,hE⟩:=bO hE;refine s0 (addM rfl rfl gx16) rfl ?_;refine S As ?_;refine nil ?_;exact hK5 _ (n5,x16) Weak.toA hE (Nat.lt_succ_self _)
    refine AWp.exit ?_;exact hK2 _ () Weak.toA hE
 rintro _ hE;try dsimp only at hE
 unfold Z70_j2 at hE;refine seqR ?_;refine S As ?_;refine nil ?_;exact rt hE
def Z67_j5  (s5_6:(Sl Bs)):Option (Sl Bs):=some s5_6
def Z67_j16 (s8_11:Nat) (k_next_9:(Sl Bs)->Nat->Option (Sl Bs)) (s5_17:(Sl Bs)):Option (Sl Bs):=k_next_9 s5_17 (s8_11+1)
def Z67_l9 (a0:TDoc) (a1:Bs) (x4:(TDef×Bool)) :Nat->(Sl Bs)->Nat->Option (Sl Bs)
 | 0,_,_=>none
 | n9+1,s5_10,s8_11=>bif ((decide (((s8_11:Nat):Int)<((a0.FDefs.l.length:Nat):Int)))&&x4.2) then((a0.FDefs.l[s8_11]?).bind fun x19=>guardO (!(!decide (x19.FKind=(1:Int)))) (Z70 a0 ((s8_11:Nat):Int)) false fun x22=>bif ((!decide (x19.FKind=(1:Int)))||(!x22)) then(Z67_j16 s8_11 ((Z67_l9 a0 a1 x4 n9)) s5_10) else(guardO ((!((decide (x4.1.FKind=(1:Int)))&&((x19.FName==a1)))&&(decide (x4.1.FKind=(2:Int))))) (Z71 x19.FImplements a1) false fun x26=>guardO ((!(((decide (x4.1.FKind=(1:Int)))&&((x19.FName==a1)))||((decide (x4.1.FKind=(2:Int)))&&x26))&&(decide (x4.1.FKind=(3:Int))))) (Z73 x4.1 x19.FName) false fun x28=>bif ((((decide (x4.1.FKind=(1:Int)))&&((x19.FName==a1)))||((decide (x4.1.FKind=(2:Int)))&&x26))||((decide (x4.1.FKind=(3:Int)))&&x28)) then((appC 16 s5_10 (⟨false,[x19.FName]⟩:Sl Bs)).bind fun x31=>Z67_j16 s8_11 ((Z67_l9 a0 a1 x4 n9)) x31) else(Z67_j16 s8_11 ((Z67_l9 a0 a1 x4 n9)) s5_10))) else(Z67_j5   s5_10)
def Z67 (a0:TDoc) (a1:Bs):Option (Sl Bs):=(Z45 a0 a1).bind fun x4=>Z67_l9 a0 a1 x4 (a0.FDefs.l.length+1) (Sl.nil:Sl Bs) 0
theorem Z67_walk {a0:TDoc}{a1:Bs}{r:Sl Bs}(hE:Z67 a0 a1=some r) (H:Heap) :ACalls Tryz.prog 132 [.agg (TDoc.c a0),.d (.str a1)] H fun v h'=>v=.a (.d (Sl.d 1 strE none r))/\h'=H:=by
 unfold Z67 at hE;refine ACalls.oW 81 [.tmp 4] Tryz.call132 Tryz.func132 ?_;refine AWp.tok 1 fun tk1 htk1=>?_;refine seqR ?_;refine S BX ?_;refine s0 (assignNil (k':=1) rfl) rfl ?_;refine nil ?_;refine seqR ?_;refine S As ?_;refine nil ?_;refine AWp.nilTok 5 1 tk1 rfl hpG ?_;refine seqR ?_;refine S Ld (S Mv ?_);obtain⟨x4,gx4,hE⟩:=bO hE;refine Sc rfl rfl (Z45_walk gx4) ?_;refine S Mv (S EX (S EX ?_))
 refine Sl ?_;refine Sf ?_;refine S As ?_;refine nil ?_;refine freezeA 6 _ rfl (KA 1 (KA 2 (KA 5 (KA 7 Keeps.nil)))) ?_;refine seqJH KeepsT.nil (fun(z:(Sl Bs))=>[(5,.a (.d (Sl.d 1 strE (some tk1) z)))]) (fun z=>(H.set tk1 (some (.tok 1 z.l.length)))) (fun z=>Z67_j5 z=some r) ?_ ?_
 ·intro K5 hK5;refine seqR ?_;refine S As ?_;refine nil ?_;refine block ?_;refine loopH (TA 1 (TA 2 (TA 6 (TA 7 KeepsT.nil)))) (fun(z:Nat×(Sl Bs)×Nat)=>[(5,.a (.d (Sl.d 1 strE (some tk1) z.2.1))),(8,.a (.d (.int .i64 ((z.2.2:Nat):Int))))]) (fun z=>(H.set tk1 (some (.tok 1 z.2.1.l.length)))) (fun z=>z.1) (fun z=>Z67_l9 a0 a1 x4 z.1 z.2.1 z.2.2=some r) ((a0.FDefs.l.length+1),(Sl.nil:Sl Bs),0) hE Weak.toA ?_
  rintro ⟨n9,s5_10,s8_11⟩ hE K9 hK9;try dsimp only at hE
  cases n9 with
  | zero=>cases hE
  | succ n9 =>
    rw [Z67_l9] at hE;refine seqK fun K12 hK12=>?_;refine seqR ?_;refine S Mv (S Fv (S Ld ?_));refine sLen (f:=TDef.c) (s:=a0.FDefs) (TK rfl) rfl rfl rfl rfl fun hL14=>?_;refine S BI (S Mv (g0 Mv (S PA ?_)));refine nil ?_;refine cE hE (fun hc15 hE=>?_) (fun hc15 hE=>?_)
    ·try dsimp only at hc15
     have hf15:=of_decide_eq_true (and_left hc15);refine sk hK12 ?_;clear hK12 K12;refine seqJH (TA 1 (TA 2 (TA 6 (TA 7 (TA 8 KeepsT.nil))))) (fun(z:(Sl Bs))=>[(5,.a (.d (Sl.d 1 strE (some tk1) z)))]) (fun z=>(H.set tk1 (some (.tok 1 z.l.length)))) (fun z=>Z67_j16 s8_11 ((Z67_l9 a0 a1 x4 n9)) z=some r) ?_ ?_
     ·intro K16 hK16;refine block ?_;refine seqR ?_;refine S Fv (S Ld (S Mv ?_));obtain⟨x19,gx19,hE⟩:=bO hE;refine s0 (idxMn (f:=TDef.c) (n:=s8_11) (TK rfl) rfl (TK rfl) rfl rfl rfl gx19) rfl ?_;refine S Ld ?_;refine Sl ?_;refine Sf ?_;refine nil ?_;refine freezeA 9 _ rfl (KA 1 (KA 2 (KA 5 (KA 6 (KA 7 (KA 8 Keeps.nil)))))) ?_;refine seqK fun K20 hK20=>?_;refine seqR ?_;refine S Fv (S Ld (S BI (S Mv (g0 Ld (g0 Mv ?_)))))
      obtain⟨x22,gx22,hE⟩:=gO hE;refine gc2 36 37 rfl rfl rfl rfl rfl rfl (fun hC=>Z70_walk (gx22 hC)) ?_;refine g1 38 rfl NB ?_;refine S PO ?_;refine nil ?_;refine cE hE (fun hc23 hE=>?_) (fun hc23 hE=>?_)
      ·refine AWp.exit ?_;exact hK16 _ s5_10 Weak.toA hE
      refine sk hK20 ?_;clear hK20 K20;refine seqR ?_;refine S Fv (S Ld (S BI (S Mv (g0 Fv ?_))));refine g1 45 rfl Ld ?_;refine g0 Mv ?_;refine g2 46 47 rfl rfl BS ?_;refine S PA (S As ?_);refine nil ?_;refine seqR ?_;refine S Mv (S Mv (g0 Fv ?_));refine g1 52 rfl Ld ?_;refine g1 53 rfl BI ?_;refine g1 54 rfl Mv ?_;refine g0 Fv ?_;refine g1 56 rfl Ld ?_;refine g0 Mv ?_;obtain⟨x26,gx26,hE⟩:=gO hE;refine gc2 57 58 rfl rfl rfl rfl rfl rfl (fun hC=>Z71_walk (gx26 hC)) ?_
      refine gC rfl rfl (fun hC=>ungdA (k:=55) rfl (pickAndA rfl rfl rfl)) rfl ?_;refine S PO (S As ?_);refine nil ?_;refine seqR ?_;refine S Mv (S Mv (g0 Fv ?_));refine g1 64 rfl Ld ?_;refine g1 65 rfl BI ?_;refine g1 66 rfl Mv ?_;refine g0 Ld (g0 Fv ?_);refine g1 69 rfl Ld ?_;obtain⟨x28,gx28,hE⟩:=gO hE;refine gc2 68 70 rfl rfl rfl rfl rfl rfl (fun hC=>Z73_walk (gx28 hC)) ?_;refine gC rfl rfl (fun hC=>ungdA (k:=67) rfl (pickAndA rfl rfl rfl)) rfl ?_
      refine S PO (S As ?_);refine nil ?_;refine seqR ?_;refine S Mv ?_;refine nil ?_;refine cE hE (fun hc30 hE=>?_) (fun hc30 hE=>?_)
      ·refine region ?_;refine S Mv (S Fv (S Ld (S BV ?_)));obtain⟨x31,gx31,hE⟩:=bO hE;refine sH (appM (f:=strE) (TK rfl) rfl (TK rfl) (TK rfl) ⟨_,rfl⟩ rfl rfl (by decide) rfl rfl rfl rfl hpG rfl gx31) rfl ?_;refine hq (H.set tk1 (some (.tok 1 x31.l.length))) ?_;refine S As ?_;refine nil ?_;exact hK16 _ x31 Weak.toA hE
      refine AWp.skip ?_;exact hK16 _ s5_10 Weak.toA hE
     rintro s5_17 hE;try dsimp only at hE
     unfold Z67_j16 at hE;refine region ?_;refine S Mv ?_;refine SI ?_;refine S As ?_;refine nil ?_;exact hK9 _ (n9,s5_17,(s8_11+1)) Weak.toA hE (Nat.lt_succ_self _)
    refine AWp.exit ?_;exact hK5 _ s5_10 Weak.toA hE
 rintro s5_6 hE;try dsimp only at hE
 unfold Z67_j5 at hE;refine seqR ?_;refine S Mv (S As ?_);refine nil ?_;refine AWp.dropTok 4 rfl ?_;refine AWp.ret ?_;repeat (first|refine xBlock_ret ?_|refine xThen_ret ?_)
 obtain rfl:=Option.some.inj hE;refine retQ.retF H rfl ⟨rfl,rfl⟩ ?_
 first|exact Heap.sub_set htk1|(simp only [Heap.set_set]; exact Heap.sub_set htk1)
def Z65 (a0:TDoc) (a1:Bs) (a2:Bs):Option Bool:=(Z67 a0 a2).bind fun x3=>(Z71 x3 a1).bind fun x4=>some x4
theorem Z65_walk {a0:TDoc}{a1 a2:Bs}{r:Bool}(hE:Z65 a0 a1 a2=some r) (H:Heap) :ACalls Tryz.prog 130 [.agg (TDoc.c a0),.d (.str a1),.d (.str a2)] H fun v h'=>v=.a (.d (.bool r))/\h'=H:=by
 unfold Z65 at hE;refine ACalls.oW 12 [.tmp 6] Tryz.call130 Tryz.func130 ?_;refine seqR ?_;refine S BX (S As ?_);refine nil ?_;refine seqR ?_;refine S Ld (S Mv ?_);obtain⟨x3,gx3,hE⟩:=bO hE;refine Sc rfl rfl (Z67_walk gx3) ?_;refine S Mv ?_;obtain⟨x4,gx4,hE⟩:=bO hE;refine Sc rfl rfl (Z71_walk gx4) ?_;refine S As ?_;refine nil ?_;exact rt hE
end Go.Proofs
