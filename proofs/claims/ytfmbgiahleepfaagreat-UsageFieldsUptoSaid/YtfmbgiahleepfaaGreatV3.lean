import Derived.Test.YtfmbgiahleepfaaGreatV2
set_option maxRecDepth 100000
set_option maxHeartbeats 2000000
set_option linter.unusedVariables false
set_option linter.unusedSimpArgs false
namespace Go.Proofs
open Go Go.Ab
open AOps Cert AWp Keeps KeepsT
variable {lou:Lou}
def Z86_l6 (a1:TDef) :Nat->Nat->Z2->(List Bs)->Option Z2
 | 0,_,_,_=>none
 | n6+1,s12_7,y8_c0,y9_id8_3=>bif (decide (((s12_7:Nat):Int)<((a1.FFields.l.length:Nat):Int))) then((a1.FFields.l[s12_7]?).bind fun x15=>(catC a1.FName ([46]:Bs)).bind fun x17=>(catC x17 x15.FName).bind fun x18=>(Z91 y8_c0 x15.FName x18 y9_id8_3).bind fun x20=>(Z92 x20.1 x15.FType.FName x18 (0:Int)).bind fun x22=>(catC x18 ([40]:Bs)).bind fun x23=>(Z87 x22 x15.FArgs x23 ([41]:Bs)).bind fun x24=>(Z86_l6 a1 n6) (s12_7+1) x24 x20.2) else(some y8_c0)
def Z86 (a0:Z2) (a1:TDef):Option Z2:=Z86_l6 a1 (a1.FFields.l.length+1) 0 a0 ([]:List Bs)
theorem Z86_walk {a0:Z2}{a1:TDef}{c0 c0_1:Nat}{r:Z2}(hE:Z86 a0 a1=some r) (H:Heap) (hc0:H c0=some (.cells (Z2.cg (some c0_1) a0))) (ht0_1:H c0_1=some (.tok 2 a0.Ffaults.l.length)):ACalls Tryz.prog 48 [.d (.ptr c0 0),.agg (TDef.c a1)] H fun v h'=>v=.tup []/\h'=((H.set c0_1 (some (.tok 2 r.Ffaults.l.length))).set c0 (some (.cells (Z2.cg (some c0_1) r)))):=by
 unfold Z86 at hE;refine ACalls.oW 41 [] Tryz.call48 Tryz.func48 ?_;have ne_c0_c0_1:c0≠c0_1:=fun e_=>by subst e_; simp_all
 refine AWp.heqA (h':=((H.set c0_1 (some (.tok 2 a0.Ffaults.l.length))).set c0 (some (.cells (Z2.cg (some c0_1) a0))))) (by funext n_; simp only [Heap.set]; (repeat' split)<;>simp_all) ?_;refine seqR (S BX (nil ?_));refine seqR ?_;refine sE StepE.makeMap rfl (fun _ _ _ ⟨id8_3,hid8_3,e1,e2,e3⟩=>?_); subst e1 e2 e3;obtain⟨ne_id8_3_c0,hid8_3⟩:=Heap.set_fresh hid8_3;obtain⟨ne_id8_3_c0_1,hid8_3⟩:=Heap.set_fresh hid8_3
 refine hq (((H.set c0_1 (some (.tok 2 a0.Ffaults.l.length))).set c0 (some (.cells (Z2.cg (some c0_1) a0)))).set id8_3 (some (.map (seenM ([]:List Bs))))) ?_;refine S As (nil ?_);refine seqR (S Fv (S Ld ?_));refine sLen (f:=Z4.c) (s:=a1.FFields) (TK rfl) rfl rfl rfl rfl fun hL5=>?_;refine S Mv (nil ?_);refine block ?_;refine loopH (TA 0 (TA 3 (TA 4 (TA 10 (TA 11 KeepsT.nil))))) (fun(z:Nat×Nat×Z2×(List Bs))=>[(12,.a (.d (.int .i64 ((z.2.1:Nat):Int))))]) (fun z=>(((H.set c0_1 (some (.tok 2 z.2.2.1.Ffaults.l.length))).set c0 (some (.cells (Z2.cg (some c0_1) z.2.2.1)))).set id8_3 (some (.map (seenM z.2.2.2))))) (fun z=>z.1) (fun z=>Z86_l6 a1 z.1 z.2.1 z.2.2.1 z.2.2.2=some r) ((a1.FFields.l.length+1),0,a0,([]:List Bs)) hE Weak.toA ?_
 rintro ⟨n6,s12_7,y8_c0,y9_id8_3⟩ hE K6 hK6;try dsimp only at hE
 cases n6 with
 | zero=>cases hE
 | succ n6 =>
   rw [Z86_l6] at hE;refine seqR (S BI (nil ?_));refine seqK fun K11 hK11=>?_;refine cE hE (fun hc12 hE=>?_) (fun hc12 hE=>?_)
   ·try dsimp only at hc12
    have hf12:=of_decide_eq_true hc12;refine sk hK11 ?_;clear hK11 K11;refine seqK fun K13 hK13=>?_;refine block ?_;refine seqR ?_;obtain⟨x15,gx15,hE⟩:=bO hE;refine S (ix Z4.c s12_7 gx15) (S Ld ?_);refine Sl ?_;refine Sf ?_;refine nil ?_;refine freezeA 6 _ rfl (KA 0 (KA 3 (KA 4 (KA 10 (KA 11 (KA 12 Keeps.nil)))))) ?_;refine seqR (S Fv (S Ld ?_));obtain⟨x17,gx17,hE⟩:=bO hE;refine s0 (catM rfl rfl gx17) rfl ?_
    refine S Fv (S Ld ?_);obtain⟨x18,gx18,hE⟩:=bO hE;refine s0 (catM rfl rfl gx18) rfl ?_;refine S As (nil ?_);refine seqR (S Mv (S Fv (S Ld (S Mv (S Mv ?_)))));obtain⟨x20,gx20,hE⟩:=bO hE;refine sH (callH rfl rfl (Z91_walk gx20 _ hpG hpG hpG)) rfl ?_;refine hq (((H.set c0_1 (some (.tok 2 x20.1.Ffaults.l.length))).set c0 (some (.cells (Z2.cg (some c0_1) x20.1)))).set id8_3 (some (.map (seenM x20.2)))) ?_
    refine nil ?_;refine seqR (S Mv (S Fv (S Fv (S Ld (S Mv ?_)))));obtain⟨x22,gx22,hE⟩:=bO hE;refine sH (callH rfl rfl (Z92_walk gx22 _ hpG hpG)) rfl ?_;refine hq (((H.set c0_1 (some (.tok 2 x22.Ffaults.l.length))).set c0 (some (.cells (Z2.cg (some c0_1) x22)))).set id8_3 (some (.map (seenM x20.2)))) ?_;refine nil ?_;refine region ?_;refine S Mv (S Fv (S Ld (S Mv ?_)));obtain⟨x23,gx23,hE⟩:=bO hE;refine s0 (catM rfl rfl gx23) rfl ?_
    obtain⟨x24,gx24,hE⟩:=bO hE;refine sH (callH rfl rfl (Z87_walk gx24 _ hpG hpG)) rfl ?_;refine hq (((H.set c0_1 (some (.tok 2 x24.Ffaults.l.length))).set c0 (some (.cells (Z2.cg (some c0_1) x24)))).set id8_3 (some (.map (seenM x20.2)))) ?_;refine nil ?_;refine hK13 _ ?_;clear hK13 K13;refine region ?_;refine SI ?_;refine S Mv (nil ?_);exact hK6 _ (n6,(s12_7+1),x24,x20.2) Weak.toA hE (Nat.lt_succ_self _)
   refine AWp.exit ?_;repeat (first|refine xBlock_normal ?_|refine xThen_exit ?_|refine xBlock_exit ?_)
   obtain rfl:=Option.some.inj hE;refine retQ.normalF ((H.set c0_1 (some (.tok 2 y8_c0.Ffaults.l.length))).set c0 (some (.cells (Z2.cg (some c0_1) y8_c0)))) (xs:=[]) rfl ⟨rfl,rfl⟩ ?_;intro id_ o_ he_;have e_id8_3:id_≠id8_3:=fun e_=>by subst e_; simp_all [Heap.set]
   rw [<- he_];simp only [Heap.set] at he_ ⊢
   (repeat' split)<;>simp_all
def Z90_l6 (a1:TDef) :Nat->Nat->Z2->(List Bs)->Option Z2
 | 0,_,_,_=>none
 | n6+1,s13_7,y8_c0,y9_id9_3=>bif (decide (((s13_7:Nat):Int)<((a1.FMembers.l.length:Nat):Int))) then((a1.FMembers.l[s13_7]?).bind fun x15=>(catC a1.FName ([46]:Bs)).bind fun x17=>(catC x17 x15.FName).bind fun x18=>guardO (!((((x15.FName==([116,114,117,101]:Bs)))||((x15.FName==([102,97,108,115,101]:Bs))))||((x15.FName==([110,117,108,108]:Bs))))) (Z112 x15.FName) false fun x21=>guardO (!(((((x15.FName==([116,114,117,101]:Bs)))||((x15.FName==([102,97,108,115,101]:Bs))))||((x15.FName==([110,117,108,108]:Bs))))||(!x21))) (Z113 x15.FName) false fun x22=>(Z84 y8_c0 ((((((x15.FName==([116,114,117,101]:Bs)))||((x15.FName==([102,97,108,115,101]:Bs))))||((x15.FName==([110,117,108,108]:Bs))))||(!x21))||x22) (6:Int) x18).bind fun x23=>(Z84 x23 (y9_id9_3.contains x15.FName) (7:Int) x18).bind fun x25=>(Z90_l6 a1 n6) (s13_7+1) x25 (insS y9_id9_3 x15.FName)) else(some y8_c0)
def Z90 (a0:Z2) (a1:TDef):Option Z2:=Z90_l6 a1 (a1.FMembers.l.length+1) 0 a0 ([]:List Bs)
theorem Z90_walk {a0:Z2}{a1:TDef}{c0 c0_1:Nat}{r:Z2}(hE:Z90 a0 a1=some r) (H:Heap) (hc0:H c0=some (.cells (Z2.cg (some c0_1) a0))) (ht0_1:H c0_1=some (.tok 2 a0.Ffaults.l.length)):ACalls Tryz.prog 49 [.d (.ptr c0 0),.agg (TDef.c a1)] H fun v h'=>v=.tup []/\h'=((H.set c0_1 (some (.tok 2 r.Ffaults.l.length))).set c0 (some (.cells (Z2.cg (some c0_1) r)))):=by
 unfold Z90 at hE;refine ACalls.oW 62 [] Tryz.call49 Tryz.func49 ?_;have ne_c0_c0_1:c0≠c0_1:=fun e_=>by subst e_; simp_all
 refine AWp.heqA (h':=((H.set c0_1 (some (.tok 2 a0.Ffaults.l.length))).set c0 (some (.cells (Z2.cg (some c0_1) a0))))) (by funext n_; simp only [Heap.set]; (repeat' split)<;>simp_all) ?_;refine seqR (S BX (nil ?_));refine seqR ?_;refine sE StepE.makeMap rfl (fun _ _ _ ⟨id9_3,hid9_3,e1,e2,e3⟩=>?_); subst e1 e2 e3;obtain⟨ne_id9_3_c0,hid9_3⟩:=Heap.set_fresh hid9_3;obtain⟨ne_id9_3_c0_1,hid9_3⟩:=Heap.set_fresh hid9_3
 refine hq (((H.set c0_1 (some (.tok 2 a0.Ffaults.l.length))).set c0 (some (.cells (Z2.cg (some c0_1) a0)))).set id9_3 (some (.map (seenM ([]:List Bs))))) ?_;refine S As (nil ?_);refine seqR (S Fv (S Ld ?_));refine sLen (f:=Z7.c) (s:=a1.FMembers) (TK rfl) rfl rfl rfl rfl fun hL5=>?_;refine S Mv (nil ?_);refine block ?_;refine loopH (TA 0 (TA 3 (TA 4 (TA 11 (TA 12 KeepsT.nil))))) (fun(z:Nat×Nat×Z2×(List Bs))=>[(13,.a (.d (.int .i64 ((z.2.1:Nat):Int))))]) (fun z=>(((H.set c0_1 (some (.tok 2 z.2.2.1.Ffaults.l.length))).set c0 (some (.cells (Z2.cg (some c0_1) z.2.2.1)))).set id9_3 (some (.map (seenM z.2.2.2))))) (fun z=>z.1) (fun z=>Z90_l6 a1 z.1 z.2.1 z.2.2.1 z.2.2.2=some r) ((a1.FMembers.l.length+1),0,a0,([]:List Bs)) hE Weak.toA ?_
 rintro ⟨n6,s13_7,y8_c0,y9_id9_3⟩ hE K6 hK6;try dsimp only at hE
 cases n6 with
 | zero=>cases hE
 | succ n6 =>
   rw [Z90_l6] at hE;refine seqR (S BI (nil ?_));refine seqK fun K11 hK11=>?_;refine cE hE (fun hc12 hE=>?_) (fun hc12 hE=>?_)
   ·try dsimp only at hc12
    have hf12:=of_decide_eq_true hc12;refine sk hK11 ?_;clear hK11 K11;refine seqK fun K13 hK13=>?_;refine block ?_;refine seqR ?_;obtain⟨x15,gx15,hE⟩:=bO hE;refine S (ix Z7.c s13_7 gx15) (S Ld ?_);refine Sl ?_;refine Sf ?_;refine nil ?_;refine freezeA 6 _ rfl (KA 0 (KA 3 (KA 4 (KA 11 (KA 12 (KA 13 Keeps.nil)))))) ?_;refine seqR (S Fv (S Ld ?_));obtain⟨x17,gx17,hE⟩:=bO hE;refine s0 (catM rfl rfl gx17) rfl ?_
    refine S Fv (S Ld ?_);obtain⟨x18,gx18,hE⟩:=bO hE;refine s0 (catM rfl rfl gx18) rfl ?_;refine S As (nil ?_);refine seqR (S Fv (S Ld (S BS (S Mv (G0 Fv ?_)))));refine G1 27 rfl Ld ?_;refine G1 28 rfl BS ?_;refine S PO (S Mv (G0 Fv ?_));refine G1 32 rfl Ld ?_;refine G1 33 rfl BS ?_;refine S PO (S As (nil ?_));refine seqR (S Mv (S Mv (S Mv (G0 Fv ?_))));refine G1 39 rfl Ld ?_;obtain⟨x21,gx21,hE⟩:=gO hE
    refine Gc1 40 rfl rfl rfl rfl rfl (fun hC=>Z112_walk (gx21 hC)) ?_;refine G1 41 rfl NB ?_;refine S PO (S Mv (G0 Fv ?_));refine G1 45 rfl Ld ?_;obtain⟨x22,gx22,hE⟩:=gO hE;refine Gc1 46 rfl rfl rfl rfl rfl (fun hC=>Z113_walk (gx22 hC)) ?_;refine S PO (S Mv ?_);obtain⟨x23,gx23,hE⟩:=bO hE;refine sH (callH rfl rfl (Z84_walk gx23 _ hpG hpG)) rfl ?_;refine hq (((H.set c0_1 (some (.tok 2 x23.Ffaults.l.length))).set c0 (some (.cells (Z2.cg (some c0_1) x23)))).set id9_3 (some (.map (seenM y9_id9_3)))) ?_
    refine nil ?_;refine seqR (S Mv (S Mv (S Fv (S Ld ?_))));refine s0 (lookupSeen (TK rfl) rfl (TK rfl) (TK rfl) rfl rfl rfl rfl hpG) rfl ?_;refine S Mv ?_;obtain⟨x25,gx25,hE⟩:=bO hE;refine sH (callH rfl rfl (Z84_walk gx25 _ hpG hpG)) rfl ?_;refine hq (((H.set c0_1 (some (.tok 2 x25.Ffaults.l.length))).set c0 (some (.cells (Z2.cg (some c0_1) x25)))).set id9_3 (some (.map (seenM y9_id9_3)))) ?_;refine nil ?_
    refine region ?_;refine S Mv (S Fv (S Ld ?_));refine sHn (mapUpdate (TK rfl) rfl (TK rfl) rfl rfl rfl rfl hpG (seen_upd _ _) rfl) rfl rfl ?_;refine hq (((H.set c0_1 (some (.tok 2 x25.Ffaults.l.length))).set c0 (some (.cells (Z2.cg (some c0_1) x25)))).set id9_3 (some (.map (seenM (insS y9_id9_3 x15.FName))))) ?_;refine nil ?_;refine hK13 _ ?_;clear hK13 K13;refine region ?_;refine SI ?_;refine S Mv (nil ?_)
    exact hK6 _ (n6,(s13_7+1),x25,(insS y9_id9_3 x15.FName)) Weak.toA hE (Nat.lt_succ_self _)
   refine AWp.exit ?_;repeat (first|refine xBlock_normal ?_|refine xThen_exit ?_|refine xBlock_exit ?_)
   obtain rfl:=Option.some.inj hE;refine retQ.normalF ((H.set c0_1 (some (.tok 2 y8_c0.Ffaults.l.length))).set c0 (some (.cells (Z2.cg (some c0_1) y8_c0)))) (xs:=[]) rfl ⟨rfl,rfl⟩ ?_;intro id_ o_ he_;have e_id9_3:id_≠id9_3:=fun e_=>by subst e_; simp_all [Heap.set]
   rw [<- he_];simp only [Heap.set] at he_ ⊢
   (repeat' split)<;>simp_all
def Z85_j23 (a2:(List Bs)) (x2:TDef) (x21:Z2)  (s120_24:Bool):Option (Z2×(List Bs)):=bif s120_24 then((Z86 x21 x2).bind fun x26=>some (x26,(insS a2 x2.FName))) else(bif (decide (x2.FKind=(4:Int))) then((Z90 x21 x2).bind fun x29=>some (x29,(insS a2 x2.FName))) else(bif (decide (x2.FKind=(5:Int))) then((catC x2.FName ([46]:Bs)).bind fun x32=>(Z87 x21 x2.FInputs x32 ([]:Bs)).bind fun x33=>some (x33,(insS a2 x2.FName))) else(some (x21,(insS a2 x2.FName)))))
def Z85_j12 (a2:(List Bs)) (x2:TDef) (x9:Z2)  (s7_13:Bool):Option (Z2×(List Bs)):=(Z84 x9 s7_13 (8:Int) x2.FName).bind fun x15=>(Z84 x15 (((((((x2.FName==([81,117,101,114,121]:Bs)))||((x2.FName==([77,117,116,97,116,105,111,110]:Bs))))||((x2.FName==([83,117,98,115,99,114,105,112,116,105,111,110]:Bs))))&&(!decide (x2.FKind=(1:Int))))||(decide (x2.FKind<(1:Int))))||(decide ((5:Int)<x2.FKind))) (9:Int) x2.FName).bind fun x18=>guardO ((decide (x2.FKind=(5:Int)))) (Z88 x18 x2) false fun x20=>(Z84 x18 ((decide (x2.FKind=(5:Int)))&&x20) (5:Int) x2.FName).bind fun x21=>bif (decide (x2.FKind=(1:Int))) then(Z85_j23 a2 x2 x21  (decide (x2.FKind=(1:Int)))) else(Z85_j23 a2 x2 x21  (decide (x2.FKind=(2:Int))))
def Z85_j41 (a2:(List Bs)) (x2:TDef) (x9:Z2)  (s55_42:Bool):Option (Z2×(List Bs)):=bif s55_42 then(Z85_j12 a2 x2 x9  (decide (((x2.FMembers.l.length:Nat):Int)=(0:Int)))) else(bif (decide (x2.FKind=(5:Int))) then(Z85_j12 a2 x2 x9  (decide (((x2.FInputs.l.length:Nat):Int)=(0:Int)))) else(Z85_j12 a2 x2 x9  false))
def Z85_j37 (a2:(List Bs)) (x2:TDef) (x9:Z2)  (s48_38:Bool):Option (Z2×(List Bs)):=bif s48_38 then(Z85_j12 a2 x2 x9  (decide (((x2.FFields.l.length:Nat):Int)=(0:Int)))) else(bif (decide (x2.FKind=(3:Int))) then(Z85_j41 a2 x2 x9  (decide (x2.FKind=(3:Int)))) else(Z85_j41 a2 x2 x9  (decide (x2.FKind=(4:Int)))))
def Z85 (a0:Z2) (a1:Int) (a2:(List Bs)):Option (Z2×(List Bs)):=(idxC a0.Fd.FDefs.l a1).bind fun x2=>(Z112 x2.FName).bind fun x4=>guardO (!(!x4)) (Z113 x2.FName) false fun x5=>(Z84 a0 ((!x4)||x5) (6:Int) x2.FName).bind fun x6=>guardO (!(a2.contains x2.FName)) (Z83 x2.FName) false fun x8=>(Z84 x6 ((a2.contains x2.FName)||x8) (7:Int) x2.FName).bind fun x9=>bif (decide (x2.FKind=(1:Int))) then(Z85_j37 a2 x2 x9  (decide (x2.FKind=(1:Int)))) else(Z85_j37 a2 x2 x9  (decide (x2.FKind=(2:Int))))
theorem Z85_walk {a0:Z2}{a1:Int}{a2:List Bs}{c0 c0_1 c2:Nat}{r:(Z2×(List Bs))}(hE:Z85 a0 a1 a2=some r) (H:Heap) (hc0:H c0=some (.cells (Z2.cg (some c0_1) a0))) (ht0_1:H c0_1=some (.tok 2 a0.Ffaults.l.length)) (hc2:H c2=some (.map (seenM a2))):ACalls Tryz.prog 19 [.d (.ptr c0 0),.d (.int .i64 a1),.d (.map c2)] H fun v h'=>v=.tup []/\h'=(((H.set c0_1 (some (.tok 2 r.1.Ffaults.l.length))).set c0 (some (.cells (Z2.cg (some c0_1) r.1)))).set c2 (some (.map (seenM r.2)))):=by
 unfold Z85 at hE;refine ACalls.oW 140 [] Tryz.call19 Tryz.func19 ?_;have ne_c0_c0_1:c0≠c0_1:=fun e_=>by subst e_; simp_all
 have ne_c2_c0_1:c2≠c0_1:=fun e_=>by subst e_; simp_all
 have ne_c2_c0:c2≠c0:=fun e_=>by subst e_; simp_all
 refine AWp.heqA (h':=(((H.set c0_1 (some (.tok 2 a0.Ffaults.l.length))).set c0 (some (.cells (Z2.cg (some c0_1) a0)))).set c2 (some (.map (seenM a2))))) (by funext n_; simp only [Heap.set]; (repeat' split)<;>simp_all) ?_;refine seqR (S Mv (S NP ?_));refine s0 (fieldP (TK rfl) rfl rfl (TK rfl) rfl rfl) rfl ?_;refine s0 (fieldP (TK rfl) rfl rfl (TK rfl) rfl rfl) rfl ?_;refine s0 (loadP (TK rfl) rfl rfl hpG rfl) rfl ?_
 refine S Mv ?_;obtain⟨x2,gx2,hE⟩:=bO hE;refine s0 (idxM (f:=TDef.c) (TK rfl) rfl (TK rfl) rfl rfl rfl gx2) rfl ?_;refine S Ld ?_;refine Sl ?_;refine Sf ?_;refine nil ?_;refine freezeA 6 _ rfl (KA 0 (KA 2 Keeps.nil)) ?_;refine AWp.seqD (Sd Mv (Sd Fv (Sd Ld ?_)));obtain⟨x4,gx4,hE⟩:=bO hE;refine Scd rfl rfl (Z112_walk gx4) ?_;refine Sd NB (Sd Mv (G0d Fv ?_));refine G1d 23 rfl Ld ?_;obtain⟨x5,gx5,hE⟩:=gO hE
 refine Gc1d 24 rfl rfl rfl rfl rfl (fun hC=>Z113_walk (gx5 hC)) ?_;refine Sd PO (Sd Fv (Sd Ld ?_));obtain⟨x6,gx6,hE⟩:=bO hE;refine DOps.sH (callH rfl rfl (Z84_walk gx6 _ hpG hpG)) rfl ?_;refine DOps.Dh (((H.set c0_1 (some (.tok 2 x6.Ffaults.l.length))).set c0 (some (.cells (Z2.cg (some c0_1) x6)))).set c2 (some (.map (seenM a2)))) ?_;refine DOps.nil (by decide +kernel) ?_;refine AWp.seqD (Sd Mv (Sd Mv (Sd Fv (Sd Ld ?_))))
 refine DOps.s0 (lookupSeen (TK rfl) rfl (TK rfl) (TK rfl) rfl rfl rfl rfl hpG) rfl ?_;refine Sd Mv (G0d Fv ?_);refine G1d 36 rfl Ld ?_;obtain⟨x8,gx8,hE⟩:=gO hE;refine Gc1d 37 rfl rfl rfl rfl rfl (fun hC=>Z83_walk (gx8 hC)) ?_;refine Sd PO (Sd Fv (Sd Ld ?_));obtain⟨x9,gx9,hE⟩:=bO hE;refine DOps.sH (callH rfl rfl (Z84_walk gx9 _ hpG hpG)) rfl ?_;refine DOps.Dh (((H.set c0_1 (some (.tok 2 x9.Ffaults.l.length))).set c0 (some (.cells (Z2.cg (some c0_1) x9)))).set c2 (some (.map (seenM a2)))) ?_
 refine DOps.nil (by decide +kernel) ?_;refine seqR (S Mv (S Fv (S Ld ?_)));refine sHn (mapUpdate (TK rfl) rfl (TK rfl) rfl rfl rfl rfl hpG (seen_upd _ _) rfl) rfl rfl ?_;refine hq (((H.set c0_1 (some (.tok 2 x9.Ffaults.l.length))).set c0 (some (.cells (Z2.cg (some c0_1) x9)))).set c2 (some (.map (seenM (insS a2 x2.FName))))) ?_;refine nil ?_;refine seqR (S As (nil ?_));refine seqJH (TA 0 (TA 6 KeepsT.nil)) (fun(z:Bool)=>[(7,.a (.d (.bool z)))]) (fun z=>(((H.set c0_1 (some (.tok 2 x9.Ffaults.l.length))).set c0 (some (.cells (Z2.cg (some c0_1) x9)))).set c2 (some (.map (seenM (insS a2 x2.FName)))))) (fun z=>Z85_j12 a2 x2 x9 z=some r) ?_ ?_
 ·intro K12 hK12;refine seqR (S Fv (S Ld (nil ?_)));refine block ?_;refine seqJH (TA 0 (TA 6 (TA 7 (TA 47 KeepsT.nil)))) (fun(z:Bool)=>[(48,.a (.d (.bool z)))]) (fun z=>(((H.set c0_1 (some (.tok 2 x9.Ffaults.l.length))).set c0 (some (.cells (Z2.cg (some c0_1) x9)))).set c2 (some (.map (seenM (insS a2 x2.FName)))))) (fun z=>Z85_j37 a2 x2 x9 z=some r) ?_ ?_
  ·intro K37 hK37;refine seqR (S BI (S As (nil ?_)));refine cE hE (fun hc51 hE=>?_) (fun hc51 hE=>?_)
   ·refine AWp.skip ?_;exact hK37 _ (decide (x2.FKind=(1:Int))) Weak.toA hE
   refine region ?_;refine S BI (S As (nil ?_));exact hK37 _ (decide (x2.FKind=(2:Int))) Weak.toA hE
  rintro s48_38 hE;try dsimp only at hE
  unfold Z85_j37 at hE;refine cE hE (fun hc39 hE=>?_) (fun hc39 hE=>?_)
  ·refine region ?_;refine S Fv (S Ld ?_);refine sLen (f:=Z4.c) (s:=x2.FFields) (TK rfl) rfl rfl rfl rfl fun hL40=>?_;refine S BI (S As (nil ?_));exact hK12 _ (decide (((x2.FFields.l.length:Nat):Int)=(0:Int))) Weak.toA hE
  refine seqJH (TA 0 (TA 6 (TA 7 (TA 47 KeepsT.nil)))) (fun(z:Bool)=>[(55,.a (.d (.bool z)))]) (fun z=>(((H.set c0_1 (some (.tok 2 x9.Ffaults.l.length))).set c0 (some (.cells (Z2.cg (some c0_1) x9)))).set c2 (some (.map (seenM (insS a2 x2.FName)))))) (fun z=>Z85_j41 a2 x2 x9 z=some r) ?_ ?_
  ·intro K41 hK41;refine seqR (S BI (S As (nil ?_)));refine cE hE (fun hc49 hE=>?_) (fun hc49 hE=>?_)
   ·refine AWp.skip ?_;exact hK41 _ (decide (x2.FKind=(3:Int))) Weak.toA hE
   refine region ?_;refine S BI (S As (nil ?_));exact hK41 _ (decide (x2.FKind=(4:Int))) Weak.toA hE
  rintro s55_42 hE;try dsimp only at hE
  unfold Z85_j41 at hE;refine cE hE (fun hc43 hE=>?_) (fun hc43 hE=>?_)
  ·refine region ?_;refine S Fv (S Ld ?_);refine sLen (f:=Z7.c) (s:=x2.FMembers) (TK rfl) rfl rfl rfl rfl fun hL44=>?_;refine S BI (S As (nil ?_));exact hK12 _ (decide (((x2.FMembers.l.length:Nat):Int)=(0:Int))) Weak.toA hE
  refine seqR (S BI (S As (nil ?_)));refine cE hE (fun hc46 hE=>?_) (fun hc46 hE=>?_)
  ·refine region ?_;refine S Fv (S Ld ?_);refine sLen (f:=Z6.c) (s:=x2.FInputs) (TK rfl) rfl rfl rfl rfl fun hL47=>?_;refine S BI (S As (nil ?_));exact hK12 _ (decide (((x2.FInputs.l.length:Nat):Int)=(0:Int))) Weak.toA hE
  refine AWp.skip ?_;exact hK12 _ false Weak.toA hE
 rintro s7_13 hE;try dsimp only at hE
 unfold Z85_j12 at hE;refine seqR (S Mv (S Mv (S Fv (S Ld ?_))));obtain⟨x15,gx15,hE⟩:=bO hE;refine sH (callH rfl rfl (Z84_walk gx15 _ hpG hpG)) rfl ?_;refine hq (((H.set c0_1 (some (.tok 2 x15.Ffaults.l.length))).set c0 (some (.cells (Z2.cg (some c0_1) x15)))).set c2 (some (.map (seenM (insS a2 x2.FName))))) ?_;refine nil ?_;refine seqR (S Fv (S Ld (S BS (S Mv (G0 Fv ?_)))));refine G1 77 rfl Ld ?_
 refine G1 78 rfl BS ?_;refine S PO (S Mv (G0 Fv ?_));refine G1 82 rfl Ld ?_;refine G1 83 rfl BS ?_;refine S PO (S As (nil ?_));refine seqR (S Mv (S Mv (S Mv (G0 Fv ?_))));refine G1 89 rfl Ld ?_;refine G1 90 rfl BI ?_;refine S PA (S Mv (G0 Fv ?_));refine G1 94 rfl Ld ?_;refine G1 95 rfl BI ?_;refine S PO (S Mv (G0 Fv ?_));refine G1 99 rfl Ld ?_;refine G1 100 rfl BI ?_;refine S PO (S Fv (S Ld ?_));obtain⟨x18,gx18,hE⟩:=bO hE
 refine sH (callH rfl rfl (Z84_walk gx18 _ hpG hpG)) rfl ?_;refine hq (((H.set c0_1 (some (.tok 2 x18.Ffaults.l.length))).set c0 (some (.cells (Z2.cg (some c0_1) x18)))).set c2 (some (.map (seenM (insS a2 x2.FName))))) ?_;refine nil ?_;refine AWp.seqD (Sd Mv (Sd Fv (Sd Ld (Sd BI (Sd Mv (G0d Mv (G0d Ld ?_)))))));obtain⟨x20,gx20,hE⟩:=gO hE;refine DOps.gC rfl rfl (fun hC=>ungdA (k:=111) rfl (ungdA (k:=112) rfl (callR rfl rfl (Z88_walk (gx20 hC) _ hpG)))) rfl ?_
 refine Sd PA (Sd Fv (Sd Ld ?_));obtain⟨x21,gx21,hE⟩:=bO hE;refine DOps.sH (callH rfl rfl (Z84_walk gx21 _ hpG hpG)) rfl ?_;refine DOps.Dh (((H.set c0_1 (some (.tok 2 x21.Ffaults.l.length))).set c0 (some (.cells (Z2.cg (some c0_1) x21)))).set c2 (some (.map (seenM (insS a2 x2.FName))))) ?_;refine DOps.nil (by decide +kernel) ?_;refine seqR (S Fv (S Ld (nil ?_)));refine block ?_;refine seqJH (TA 0 (TA 6 (TA 119 KeepsT.nil))) (fun(z:Bool)=>[(120,.a (.d (.bool z)))]) (fun z=>(((H.set c0_1 (some (.tok 2 x21.Ffaults.l.length))).set c0 (some (.cells (Z2.cg (some c0_1) x21)))).set c2 (some (.map (seenM (insS a2 x2.FName)))))) (fun z=>Z85_j23 a2 x2 x21 z=some r) ?_ ?_
 ·intro K23 hK23;refine seqR (S BI (S As (nil ?_)));refine cE hE (fun hc35 hE=>?_) (fun hc35 hE=>?_)
  ·refine AWp.skip ?_;exact hK23 _ (decide (x2.FKind=(1:Int))) Weak.toA hE
  refine region ?_;refine S BI (S As (nil ?_));exact hK23 _ (decide (x2.FKind=(2:Int))) Weak.toA hE
 rintro s120_24 hE;try dsimp only at hE
 unfold Z85_j23 at hE;refine cE hE (fun hc25 hE=>?_) (fun hc25 hE=>?_)
 ·refine region ?_;refine S Mv (S Ld ?_);obtain⟨x26,gx26,hE⟩:=bO hE;refine sH (callH rfl rfl (Z86_walk gx26 _ hpG hpG)) rfl ?_;refine hq (((H.set c0_1 (some (.tok 2 x26.Ffaults.l.length))).set c0 (some (.cells (Z2.cg (some c0_1) x26)))).set c2 (some (.map (seenM (insS a2 x2.FName))))) ?_;refine nil ?_;repeat (first|refine xBlock_normal ?_|refine xThen_exit ?_|refine xBlock_exit ?_)
  obtain rfl:=Option.some.inj hE;refine retQ.normalF (((H.set c0_1 (some (.tok 2 x26.Ffaults.l.length))).set c0 (some (.cells (Z2.cg (some c0_1) x26)))).set c2 (some (.map (seenM (insS a2 x2.FName))))) (xs:=[]) rfl ⟨rfl,rfl⟩ ?_;exact(fun _ _ h=>h)
 refine seqR (S BI (S As (nil ?_)));refine cE hE (fun hc28 hE=>?_) (fun hc28 hE=>?_)
 ·refine region ?_;refine S Mv (S Ld ?_);obtain⟨x29,gx29,hE⟩:=bO hE;refine sH (callH rfl rfl (Z90_walk gx29 _ hpG hpG)) rfl ?_;refine hq (((H.set c0_1 (some (.tok 2 x29.Ffaults.l.length))).set c0 (some (.cells (Z2.cg (some c0_1) x29)))).set c2 (some (.map (seenM (insS a2 x2.FName))))) ?_;refine nil ?_;repeat (first|refine xBlock_normal ?_|refine xThen_exit ?_|refine xBlock_exit ?_)
  obtain rfl:=Option.some.inj hE;refine retQ.normalF (((H.set c0_1 (some (.tok 2 x29.Ffaults.l.length))).set c0 (some (.cells (Z2.cg (some c0_1) x29)))).set c2 (some (.map (seenM (insS a2 x2.FName))))) (xs:=[]) rfl ⟨rfl,rfl⟩ ?_;exact(fun _ _ h=>h)
 refine seqR (S BI (S As (nil ?_)));refine cE hE (fun hc31 hE=>?_) (fun hc31 hE=>?_)
 ·refine region ?_;refine S Mv (S Fv (S Ld (S Fv (S Ld ?_))));obtain⟨x32,gx32,hE⟩:=bO hE;refine s0 (catM rfl rfl gx32) rfl ?_;obtain⟨x33,gx33,hE⟩:=bO hE;refine sH (callH rfl rfl (Z87_walk gx33 _ hpG hpG)) rfl ?_;refine hq (((H.set c0_1 (some (.tok 2 x33.Ffaults.l.length))).set c0 (some (.cells (Z2.cg (some c0_1) x33)))).set c2 (some (.map (seenM (insS a2 x2.FName))))) ?_;refine nil ?_;repeat (first|refine xBlock_normal ?_|refine xThen_exit ?_|refine xBlock_exit ?_)
  obtain rfl:=Option.some.inj hE;refine retQ.normalF (((H.set c0_1 (some (.tok 2 x33.Ffaults.l.length))).set c0 (some (.cells (Z2.cg (some c0_1) x33)))).set c2 (some (.map (seenM (insS a2 x2.FName))))) (xs:=[]) rfl ⟨rfl,rfl⟩ ?_;exact(fun _ _ h=>h)
 refine AWp.skip ?_;repeat (first|refine xBlock_normal ?_|refine xThen_exit ?_|refine xBlock_exit ?_)
 obtain rfl:=Option.some.inj hE;refine retQ.normalF (((H.set c0_1 (some (.tok 2 x21.Ffaults.l.length))).set c0 (some (.cells (Z2.cg (some c0_1) x21)))).set c2 (some (.map (seenM (insS a2 x2.FName))))) (xs:=[]) rfl ⟨rfl,rfl⟩ ?_;exact(fun _ _ h=>h)
def Z75_j10  (y11_id12_3:Z2):Option (Sl Z3):=some y11_id12_3.Ffaults
def Z75_j7 (a0:TDoc) (a1:Bool)  (y8_id12_3:Z2) (y9_id13_6:(List Bs)):Option (Sl Z3):=(Z78 a0 ([81,117,101,114,121]:Bs)).bind fun x14=>bif (a1&&(!x14.2)) then((Z84 y8_id12_3 true (30:Int) ([81,117,101,114,121]:Bs)).bind fun x17=>Z75_j10   x17) else(Z75_j10   y8_id12_3)
def Z75_l20 (a0:TDoc) (a1:Bool) :Nat->Nat->Z2->(List Bs)->Option (Sl Z3)
 | 0,_,_,_=>none
 | n20+1,s17_21,y22_id12_3,y23_id13_6=>bif (decide (((s17_21:Nat):Int)<((a0.FDefs.l.length:Nat):Int))) then((Z85 y22_id12_3 ((s17_21:Nat):Int) y23_id13_6).bind fun x29=>(Z75_l20 a0 a1 n20) (s17_21+1) x29.1 x29.2) else(Z75_j7 a0 a1  y22_id12_3 y23_id13_6)
def Z75 (a0:TDoc) (a1:Bool):Option (Sl Z3):=Z75_l20 a0 a1 (a0.FDefs.l.length+1) 0 (Z2.mk a0 (Sl.nil:Sl Z3)) ([]:List Bs)
theorem Z75_walk {a0:TDoc}{a1:Bool}{r:Sl Z3}(hE:Z75 a0 a1=some r) (H:Heap) :ACalls Tryz.prog 5 [.agg (TDoc.c a0),.d (.bool a1)] H fun v h'=>v=.a (.d (Sl.d 2 Z3.c none r))/\h'=H:=by
 unfold Z75 at hE;refine ACalls.oW 41 [.tmp 4] Tryz.call5 Tryz.func5 ?_;refine seqR (S BX ?_);refine s0 (assignNil (k':=2) rfl) rfl ?_;refine nil ?_;refine seqR (S Ld (S BU ?_));refine AOps.tok 2 fun tk12_4 htk12_4=>?_;refine sE (StepE.boxO rfl) rfl (fun _ _ _ ⟨id12_3,hid12_3,e1,e2,e3⟩=>?_); subst e1 e2 e3;obtain⟨ne_id12_3_tk12_4,hid12_3⟩:=Heap.set_fresh hid12_3;refine AOps.recell id12_3 _ hpG (fun j w cs hh hx=>tok_cell 1 2 2 hh (t:=tk12_4) hpG hx rfl) ?_
 refine hq ((H.set tk12_4 (some (.tok 2 0))).set id12_3 (some (.cells (Z2.cg (some tk12_4) (Z2.mk a0 (Sl.nil:Sl Z3)))))) ?_;refine S As (nil ?_);refine seqR ?_;refine sE StepE.makeMap rfl (fun _ _ _ ⟨id13_6,hid13_6,e1,e2,e3⟩=>?_); subst e1 e2 e3;obtain⟨ne_id13_6_id12_3,hid13_6⟩:=Heap.set_fresh hid13_6;obtain⟨ne_id13_6_tk12_4,hid13_6⟩:=Heap.set_fresh hid13_6;refine hq (((H.set tk12_4 (some (.tok 2 0))).set id12_3 (some (.cells (Z2.cg (some tk12_4) (Z2.mk a0 (Sl.nil:Sl Z3)))))).set id13_6 (some (.map (seenM ([]:List Bs))))) ?_
 refine S As (nil ?_);refine seqJH (TA 1 (TA 2 (TA 5 KeepsT.nil))) (fun(z:Z2×(List Bs))=>[]) (fun z=>(((H.set tk12_4 (some (.tok 2 z.1.Ffaults.l.length))).set id12_3 (some (.cells (Z2.cg (some tk12_4) z.1)))).set id13_6 (some (.map (seenM z.2))))) (fun z=>Z75_j7 a0 a1 z.1 z.2=some r) ?_ ?_
 ·intro K7 hK7;refine seqR (S Fv (S Ld ?_));refine sLen (f:=TDef.c) (s:=a0.FDefs) (TK rfl) rfl rfl rfl rfl fun hL19=>?_;refine S Mv (nil ?_);refine block ?_;refine loopH (TA 1 (TA 2 (TA 5 (TA 6 (TA 16 KeepsT.nil))))) (fun(z:Nat×Nat×Z2×(List Bs))=>[(17,.a (.d (.int .i64 ((z.2.1:Nat):Int))))]) (fun z=>(((H.set tk12_4 (some (.tok 2 z.2.2.1.Ffaults.l.length))).set id12_3 (some (.cells (Z2.cg (some tk12_4) z.2.2.1)))).set id13_6 (some (.map (seenM z.2.2.2))))) (fun z=>z.1) (fun z=>Z75_l20 a0 a1 z.1 z.2.1 z.2.2.1 z.2.2.2=some r) ((a0.FDefs.l.length+1),0,(Z2.mk a0 (Sl.nil:Sl Z3)),([]:List Bs)) hE Weak.toA ?_
  rintro ⟨n20,s17_21,y22_id12_3,y23_id13_6⟩ hE K20 hK20;try dsimp only at hE
  cases n20 with
  | zero=>cases hE
  | succ n20 =>
    rw [Z75_l20] at hE;refine seqR (S BI (nil ?_));refine seqK fun K25 hK25=>?_;refine cE hE (fun hc26 hE=>?_) (fun hc26 hE=>?_)
    ·try dsimp only at hc26
     have hf26:=of_decide_eq_true hc26;refine sk hK25 ?_;clear hK25 K25;refine seqK fun K27 hK27=>?_;refine block ?_;refine seqR (S Mv (S As (nil ?_)));refine region ?_;refine S Mv (S Mv (S Mv ?_));obtain⟨x29,gx29,hE⟩:=bO hE;refine sH (callH rfl rfl (Z85_walk gx29 _ hpG hpG hpG)) rfl ?_;refine hq (((H.set tk12_4 (some (.tok 2 x29.1.Ffaults.l.length))).set id12_3 (some (.cells (Z2.cg (some tk12_4) x29.1)))).set id13_6 (some (.map (seenM x29.2)))) ?_
     refine nil ?_;refine hK27 _ ?_;clear hK27 K27;refine region ?_;refine SI ?_;refine S Mv (nil ?_);exact hK20 _ (n20,(s17_21+1),x29.1,x29.2) Weak.toA hE (Nat.lt_succ_self _)
    refine AWp.exit ?_;exact hK7 _ (y22_id12_3,y23_id13_6) Weak.toA hE
 rintro ⟨y8_id12_3,y9_id13_6⟩ hE;try dsimp only at hE
 unfold Z75_j7 at hE;refine seqJH (TA 5 KeepsT.nil) (fun(z:Z2)=>[]) (fun z=>(((H.set tk12_4 (some (.tok 2 z.Ffaults.l.length))).set id12_3 (some (.cells (Z2.cg (some tk12_4) z)))).set id13_6 (some (.map (seenM y9_id13_6))))) (fun z=>Z75_j10 z=some r) ?_ ?_
 ·intro K10 hK10;refine seqR (S Ld ?_);obtain⟨x14,gx14,hE⟩:=bO hE;refine Sc rfl rfl (Z78_walk gx14) ?_;refine S Mv (S EX (S EX ?_));refine Sl ?_;refine Sf ?_;refine S As (nil ?_);refine freezeA 8 _ rfl (KA 1 (KA 5 (KA 9 Keeps.nil))) ?_;refine seqR (S Mv (S Mv (G0 Mv ?_)));refine G1 32 rfl NB ?_;refine S PA (nil ?_);refine cE hE (fun hc16 hE=>?_) (fun hc16 hE=>?_)
  ·refine region ?_;refine S Mv ?_;obtain⟨x17,gx17,hE⟩:=bO hE;refine sH (callH rfl rfl (Z84_walk gx17 _ hpG hpG)) rfl ?_;refine hq (((H.set tk12_4 (some (.tok 2 x17.Ffaults.l.length))).set id12_3 (some (.cells (Z2.cg (some tk12_4) x17)))).set id13_6 (some (.map (seenM y9_id13_6)))) ?_;refine nil ?_;exact hK10 _ x17 Weak.toA hE
  refine AWp.skip ?_;exact hK10 _ y8_id12_3 Weak.toA hE
 rintro y11_id12_3 hE;try dsimp only at hE
 unfold Z75_j10 at hE;refine seqR (S Mv (S NP ?_));refine s0 (fieldP (TK rfl) rfl rfl (TK rfl) rfl rfl) rfl ?_;refine s0 (loadP (TK rfl) rfl rfl hpG rfl) rfl ?_;refine S As (nil ?_);refine AWp.dropTok 4 rfl ?_;refine AWp.ret ?_;repeat (first|refine xBlock_ret ?_|refine xThen_ret ?_)
 obtain rfl:=Option.some.inj hE;refine retQ.retF H rfl ⟨rfl,rfl⟩ ?_;intro id_ o_ he_;have e_tk12_4:id_≠tk12_4:=fun e_=>by subst e_; simp_all [Heap.set]
 have e_id12_3:id_≠id12_3:=fun e_=>by subst e_; simp_all [Heap.set]
 have e_id13_6:id_≠id13_6:=fun e_=>by subst e_; simp_all [Heap.set]
 rw [<- he_];simp only [Heap.set] at he_ ⊢
 (repeat' split)<;>simp_all
def Z82 (a0:Int):Option Bs:=bif (decide (a0=(1:Int))) then(some ([81,117,101,114,121]:Bs)) else(bif (decide (a0=(2:Int))) then(some ([77,117,116,97,116,105,111,110]:Bs)) else(bif (decide (a0=(3:Int))) then(some ([83,117,98,115,99,114,105,112,116,105,111,110]:Bs)) else(some ([]:Bs))))
theorem Z82_walk {a0:Int}{r:Bs}(hE:Z82 a0=some r) (H:Heap) :ACalls Tryz.prog 11 [.d (.int .i64 a0)] H fun v h'=>v=.a (.d (.str r))/\h'=H:=by
 unfold Z82 at hE;refine ACalls.oW 10 [.tmp 2] Tryz.call11 Tryz.func11 ?_;refine seqR (S As (nil ?_));refine seqK fun K2 hK2=>?_;refine seqR (S Mv (nil ?_));refine block ?_;refine seqR (S BI (S As (nil ?_)));refine cE hE (fun hc5 hE=>?_) (fun hc5 hE=>?_)
 ·refine seqR (S As (nil ?_));exact rt hE
 refine seqR (S BI (S As (nil ?_)));refine cE hE (fun hc8 hE=>?_) (fun hc8 hE=>?_)
 ·refine seqR (S As (nil ?_));exact rt hE
 refine seqR (S BI (S As (nil ?_)));refine cE hE (fun hc11 hE=>?_) (fun hc11 hE=>?_)
 ·refine seqR (S As (nil ?_));exact rt hE
 refine sk hK2 ?_;clear hK2 K2;refine seqR (S As (nil ?_));exact rt hE
end Go.Proofs

namespace Go.Proofs
open Go Go.Ab
open AOps Cert AWp Keeps KeepsT
variable {lou:Lou}
def Z33_j2  (y3_l0:Z5):Option (Z5×Bool):=some ((Z5.mk ([]:Bs) ([]:Bs) (Sl.nil:Sl TSel)),false)
def Z33_l7 (a0:Z8) (a1:Bs) :Nat->Nat->Z5->Option (Z5×Bool)
 | 0,_,_=>none
 | n7+1,s11_8,y9_l0=>bif (decide (((s11_8:Nat):Int)<((a0.FFrags.l.length:Nat):Int))) then((a0.FFrags.l[s11_8]?).bind fun x15=>bif ((x15.FName==a1)) then(some (x15,true)) else((Z33_l7 a0 a1 n7) (s11_8+1) y9_l0)) else(Z33_j2   y9_l0)
def Z33 (a0:Z8) (a1:Bs):Option (Z5×Bool):=Z33_l7 a0 a1 (a0.FFrags.l.length+1) 0 Z5.zero
theorem Z33_walk {a0:Z8}{a1:Bs}{r:Z5×Bool}(hE:Z33 a0 a1=some r) (H:Heap) :ACalls Tryz.prog 13 [.agg (Z8.c a0),.d (.str a1)] H fun v h'=>v=.tup [.agg (Z5.c r.1),.d (.bool r.2)]/\h'=H:=by
 unfold Z33 at hE;refine ACalls.oW 22 [.cell 4 46,.tmp 5] Tryz.call13 Tryz.func13 ?_;refine seqR (S BX ?_);refine Sl ?_;refine S As (nil ?_);refine seqJ (TA 4 KeepsT.nil) (fun(z:Z5)=>[]) (fun z=>[Z5.c z]) (fun z=>H) (fun z=>Z33_j2 z=some r) ?_ ?_
 ·intro K2 hK2;refine seqR (S Fv (S Ld ?_));refine sLen (f:=Z5.c) (s:=a0.FFrags) (TK rfl) rfl rfl rfl rfl fun hL6=>?_;refine S Mv (nil ?_);refine block ?_;refine loopO (TA 1 (TA 4 (TA 9 (TA 10 KeepsT.nil)))) (fun(z:Nat×Nat×Z5)=>[(11,.a (.d (.int .i64 ((z.2.1:Nat):Int))))]) (fun z=>[Z5.c z.2.2]) (fun z=>H) (fun z=>z.1) (fun z=>Z33_l7 a0 a1 z.1 z.2.1 z.2.2=some r) ((a0.FFrags.l.length+1),0,Z5.zero) hE Weak.toA ?_
  rintro ⟨n7,s11_8,y9_l0⟩ hE K7 hK7;try dsimp only at hE
  cases n7 with
  | zero=>cases hE
  | succ n7 =>
    rw [Z33_l7] at hE;refine seqR (S BI (nil ?_));refine seqK fun K11 hK11=>?_;refine cE hE (fun hc12 hE=>?_) (fun hc12 hE=>?_)
    ·try dsimp only at hc12
     have hf12:=of_decide_eq_true hc12;refine sk hK11 ?_;clear hK11 K11;refine seqK fun K13 hK13=>?_;refine block ?_;refine seqR ?_;obtain⟨x15,gx15,hE⟩:=bO hE;refine S (ix Z5.c s11_8 gx15) (S Ld ?_);refine Sl ?_;refine Sf ?_;refine nil ?_;refine freezeA 7 _ rfl (KA 1 (KA 4 (KA 9 (KA 10 (KA 11 Keeps.nil))))) ?_;refine seqR (S Fv (S Ld (S Mv (S BS (nil ?_)))));refine cE hE (fun hc17 hE=>?_) (fun hc17 hE=>?_)
     ·refine seqR (S Ld ?_);refine Sf ?_;refine S As (nil ?_);exact rt hE
     refine sk hK13 ?_;clear hK13 K13;refine region ?_;refine SI ?_;refine S Mv (nil ?_);exact hK7 _ (n7,(s11_8+1),y9_l0) Weak.toA hE (Nat.lt_succ_self _)
    refine AWp.exit ?_;exact hK2 _ y9_l0 Weak.toA hE
 rintro y3_l0 hE;try dsimp only at hE
 unfold Z33_j2 at hE;refine seqR (S BU ?_);refine Sf ?_;refine S As (nil ?_);exact rt hE
def Z35 (a0:Z1) (a1:Bool) (a2:Int) (a3:Bs):Option Z1:=bif a1 then((appC 24 a0.Fout (⟨false,[(Z3.mk a2 a3)]⟩:Sl Z3)).bind fun x3=>some (Z1.mk a0.Fd a0.Fq x3)) else(some a0)
theorem Z35_walk {a0:Z1}{a1:Bool}{a2:Int}{a3:Bs}{c0 c0_2:Nat}{r:Z1}(hE:Z35 a0 a1 a2 a3=some r) (H:Heap) (hc0:H c0=some (.cells (Z1.cg (some c0_2) a0))) (ht0_2:H c0_2=some (.tok 2 a0.Fout.l.length)):ACalls Tryz.prog 24 [.d (.ptr c0 0),.d (.bool a1),.d (.int .i64 a2),.d (.str a3)] H fun v h'=>v=.tup []/\h'=((H.set c0_2 (some (.tok 2 r.Fout.l.length))).set c0 (some (.cells (Z1.cg (some c0_2) r)))):=by
 unfold Z35 at hE;refine ACalls.oW 21 [] Tryz.call24 Tryz.func24 ?_;have ne_c0_c0_2:c0≠c0_2:=fun e_=>by subst e_; simp_all
 refine AWp.heqA (h':=((H.set c0_2 (some (.tok 2 a0.Fout.l.length))).set c0 (some (.cells (Z1.cg (some c0_2) a0))))) (by funext n_; simp only [Heap.set]; (repeat' split)<;>simp_all) ?_;refine seqR (S Mv (nil ?_));refine cE hE (fun hc2 hE=>?_) (fun hc2 hE=>?_)
 ·refine region ?_;refine S Mv (S Mv (S NP ?_));refine s0 (fieldP (TK rfl) rfl rfl (TK rfl) rfl rfl) rfl ?_;refine s0 (loadP (TK rfl) rfl rfl hpG rfl) rfl ?_;refine S Mv (S Mv (S BU (S BV ?_)));obtain⟨x3,gx3,hE⟩:=bO hE;refine SH (am Z3.c (TK rfl) rfl (TK rfl) (TK rfl) gx3) ?_;refine hq ((H.set c0_2 (some (.tok 2 x3.l.length))).set c0 (some (.cells (Z1.cg (some c0_2) a0)))) ?_;refine S NP ?_;refine s0 (fieldP (TK rfl) rfl rfl (TK rfl) rfl rfl) rfl ?_
  refine sHn (storeP1 (TK rfl) rfl rfl hpG rfl (by repeat (first|exact SetAt.zero|apply SetAt.succ))) rfl rfl ?_;refine hq ((H.set c0_2 (some (.tok 2 x3.l.length))).set c0 (some (.cells (Z1.cg (some c0_2) (Z1.mk a0.Fd a0.Fq x3))))) ?_;refine nil ?_;repeat (first|refine xBlock_normal ?_|refine xThen_exit ?_|refine xBlock_exit ?_)
  obtain rfl:=Option.some.inj hE;refine retQ.normalF ((H.set c0_2 (some (.tok 2 x3.l.length))).set c0 (some (.cells (Z1.cg (some c0_2) (Z1.mk a0.Fd a0.Fq x3))))) (xs:=[]) rfl ⟨rfl,rfl⟩ ?_;exact(fun _ _ h=>h)
 refine AWp.skip ?_;repeat (first|refine xBlock_normal ?_|refine xThen_exit ?_|refine xBlock_exit ?_)
 obtain rfl:=Option.some.inj hE;refine retQ.normalF ((H.set c0_2 (some (.tok 2 a0.Fout.l.length))).set c0 (some (.cells (Z1.cg (some c0_2) a0)))) (xs:=[]) rfl ⟨rfl,rfl⟩ ?_;exact(fun _ _ h=>h)
def Z76 (a0:TDoc) (a1:Bs):Option Bool:=(Z93 a0 a1).bind fun x3=>(Z83 a1).bind fun x5=>some ((!x5)&&(((decide (x3=(1:Int)))||(decide (x3=(2:Int))))||(decide (x3=(3:Int)))))
theorem Z76_walk {a0:TDoc}{a1:Bs}{r:Bool}(hE:Z76 a0 a1=some r) (H:Heap) :ACalls Tryz.prog 25 [.agg (TDoc.c a0),.d (.str a1)] H fun v h'=>v=.a (.d (.bool r))/\h'=H:=by
 unfold Z76 at hE;refine ACalls.oW 24 [.tmp 4] Tryz.call25 Tryz.func25 ?_;refine seqR (S BX (S As (nil ?_)));refine seqR (S Ld (S Mv ?_));obtain⟨x3,gx3,hE⟩:=bO hE;refine Sc rfl rfl (Z93_walk gx3) ?_;refine S As (nil ?_);refine seqR (S Mv ?_);obtain⟨x5,gx5,hE⟩:=bO hE;refine Sc rfl rfl (Z83_walk gx5) ?_;refine S NB (S Mv (G0 Mv ?_));refine G1 13 rfl BI ?_;refine G1 14 rfl Mv ?_;refine G0 Mv ?_;refine G1 16 rfl BI ?_
 refine gC rfl rfl (fun hC=>ungdA (k:=15) rfl (pickOrA rfl rfl rfl)) rfl ?_;refine G1 18 rfl Mv ?_;refine G0 Mv ?_;refine G1 20 rfl BI ?_;refine gC rfl rfl (fun hC=>ungdA (k:=19) rfl (pickOrA rfl rfl rfl)) rfl ?_;refine S PA (S As (nil ?_));exact rt hE
def Z109_j2  :Option Int:=some (-1:Int)
def Z109_l6 (a0:(Sl Bs)) (a1:Bs) :Nat->Nat->Option Int
 | 0,_=>none
 | n6+1,s8_7=>bif (decide (((s8_7:Nat):Int)<((a0.l.length:Nat):Int))) then((a0.l[s8_7]?).bind fun x14=>bif ((a1==x14)) then(some ((s8_7:Nat):Int)) else((Z109_l6 a0 a1 n6) (s8_7+1))) else(Z109_j2   )
def Z109 (a0:(Sl Bs)) (a1:Bs):Option Int:=Z109_l6 a0 a1 (a0.l.length+1) 0
theorem Z109_walk {a0:Sl Bs}{a1:Bs}{w0:Option Nat}{r:Int}(hE:Z109 a0 a1=some r) (H:Heap) :ACalls Tryz.prog 86 [.d (Sl.d 1 strE w0 a0),.d (.str a1)] H fun v h'=>v=.a (.d (.int .i64 r))/\h'=H:=by
 unfold Z109 at hE;refine ACalls.oW 19 [.tmp 4] Tryz.call86 Tryz.func86 ?_;refine seqR (S As (nil ?_));refine seqJH KeepsT.nil (fun(z:Unit)=>[]) (fun z=>H) (fun z=>Z109_j2 =some r) ?_ ?_
 ·intro K2 hK2;refine seqR (S Mv ?_);refine sLen (f:=strE) (s:=a0) (TK rfl) rfl rfl rfl rfl fun hL5=>?_;refine S Mv (nil ?_);refine block ?_;refine loopH (TA 0 (TA 1 (TA 7 KeepsT.nil))) (fun(z:Nat×Nat)=>[(8,.a (.d (.int .i64 ((z.2:Nat):Int))))]) (fun z=>H) (fun z=>z.1) (fun z=>Z109_l6 a0 a1 z.1 z.2=some r) ((a0.l.length+1),0) hE Weak.toA ?_;rintro ⟨n6,s8_7⟩ hE K6 hK6;try dsimp only at hE
  cases n6 with
  | zero=>cases hE
  | succ n6 =>
    rw [Z109_l6] at hE;refine seqR (S BI (nil ?_));refine seqK fun K9 hK9=>?_;refine cE hE (fun hc10 hE=>?_) (fun hc10 hE=>?_)
    ·try dsimp only at hc10
     have hf10:=of_decide_eq_true hc10;refine sk hK9 ?_;clear hK9 K9;refine seqK fun K11 hK11=>?_;refine block ?_;refine seqR (S Mv (S As (nil ?_)));refine seqR (S Mv (S Mv (S Mv ?_)));obtain⟨x14,gx14,hE⟩:=bO hE;refine S (ix strE s8_7 gx14) (S Ld (S BS (nil ?_)));refine cE hE (fun hc15 hE=>?_) (fun hc15 hE=>?_)
     ·refine seqR (S Mv (S As (nil ?_)));exact rt hE
     refine sk hK11 ?_;clear hK11 K11;refine region ?_;refine SI ?_;refine S Mv (nil ?_);exact hK6 _ (n6,(s8_7+1)) Weak.toA hE (Nat.lt_succ_self _)
    refine AWp.exit ?_;exact hK2 _ () Weak.toA hE
 rintro _ hE;try dsimp only at hE
 unfold Z109_j2 at hE;refine seqR (S As (nil ?_));exact rt hE
def Z102 (a0:(Sl Bs)) (a1:Bs):Option Bool:=(Z109 a0 a1).bind fun x3=>some (decide ((0:Int)<=x3))
theorem Z102_walk {a0:Sl Bs}{a1:Bs}{w0:Option Nat}{r:Bool}(hE:Z102 a0 a1=some r) (H:Heap) :ACalls Tryz.prog 53 [.d (Sl.d 1 strE w0 a0),.d (.str a1)] H fun v h'=>v=.a (.d (.bool r))/\h'=H:=by
 unfold Z102 at hE;refine ACalls.oW 9 [.tmp 4] Tryz.call53 Tryz.func53 ?_;refine seqR (S As (nil ?_));refine seqR (S Mv (S Mv ?_));obtain⟨x3,gx3,hE⟩:=bO hE;refine Sc rfl rfl (Z109_walk gx3) ?_;refine S BI (S As (nil ?_));exact rt hE
def Z14 (a0:TDef) (a1:Bs):Option Bool:=(Z102 a0.FImplements a1).bind fun x3=>some x3
theorem Z14_walk {a0:TDef}{a1:Bs}{r:Bool}(hE:Z14 a0 a1=some r) (H:Heap) :ACalls Tryz.prog 125 [.agg (TDef.c a0),.d (.str a1)] H fun v h'=>v=.a (.d (.bool r))/\h'=H:=by
 unfold Z14 at hE;refine ACalls.oW 9 [.tmp 4] Tryz.call125 Tryz.func125 ?_;refine seqR (S BX (S As (nil ?_)));refine seqR (S Fv (S Ld (S Mv ?_)));obtain⟨x3,gx3,hE⟩:=bO hE;refine Sc rfl rfl (Z102_walk gx3) ?_;refine S As (nil ?_);exact rt hE
def Z13_j11  (s15_12:(Sl Bs)) (y13_id24_5:(List Bs)):Option (Sl Bs):=some s15_12
def Z13_j24 (s95_19:Nat) (k_next_17:(Sl Bs)->Nat->(List Bs)->Option (Sl Bs)) (s15_25:(Sl Bs)) (y26_id24_5:(List Bs)):Option (Sl Bs):=k_next_17 s15_25 (s95_19+1) y26_id24_5
def Z13_l17 (a0:TDoc) :Nat->(Sl Bs)->Nat->(List Bs)->Option (Sl Bs)
 | 0,_,_,_=>none
 | n17+1,s15_18,s95_19,y20_id24_5=>bif (decide (((s95_19:Nat):Int)<((a0.FDefs.l.length:Nat):Int))) then((a0.FDefs.l[s95_19]?).bind fun x28=>bif (y20_id24_5.contains x28.FName) then((appC 16 s15_18 (⟨false,[x28.FName]⟩:Sl Bs)).bind fun x32=>Z13_j24 s95_19 ((Z13_l17 a0 n17)) x32 (List.erase y20_id24_5 x28.FName)) else(Z13_j24 s95_19 ((Z13_l17 a0 n17)) s15_18 y20_id24_5)) else(Z13_j11   s15_18 y20_id24_5)
def Z13_j8 (a0:TDoc)  (y9_id24_5:(List Bs)):Option (Sl Bs):=Z13_l17 a0 (a0.FDefs.l.length+1) (Sl.nil:Sl Bs) 0 y9_id24_5
def Z13_k36 (a0:TDoc) (a1:Bs) (x3:(TDef×Bool))  (s_36:Bs):Option Bool:=(Z78 a0 s_36).bind fun x39=>guardO ((!((!x39.2)||(!decide (x39.1.FKind=(1:Int))))&&(decide (x3.1.FKind=(2:Int))))) (Z14 x39.1 a1) false fun x41=>bif (((!x39.2)||(!decide (x39.1.FKind=(1:Int))))||((decide (x3.1.FKind=(2:Int)))&&(!x41))) then(some false) else(some true)
def Z13_j6 (a0:TDoc) (a1:Bs) (x3:(TDef×Bool))  (y7_id24_5:(List Bs)):Option (Sl Bs):=Option.bind (filtO (Z13_k36 a0 a1 x3) y7_id24_5) fun l_36=>Z13_j8 a0  l_36
def Z13_j56 (s36_51:Nat) (k_next_50:Nat->(List Bs)->Option (Sl Bs)) (y57_id24_5:(List Bs)):Option (Sl Bs):=k_next_50 (s36_51+1) y57_id24_5
def Z13_l50 (a0:TDoc) (a1:Bs) (x3:(TDef×Bool)) :Nat->Nat->(List Bs)->Option (Sl Bs)
 | 0,_,_=>none
 | n50+1,s36_51,y52_id24_5=>bif (decide (((s36_51:Nat):Int)<((a0.FDefs.l.length:Nat):Int))) then((a0.FDefs.l[s36_51]?).bind fun x59=>(Z14 x59 a1).bind fun x61=>bif x61 then(Z13_j56 s36_51 ((Z13_l50 a0 a1 x3 n50)) (insS y52_id24_5 x59.FName)) else(Z13_j56 s36_51 ((Z13_l50 a0 a1 x3 n50)) y52_id24_5)) else(Z13_j6 a0 a1 x3  y52_id24_5)
def Z13_l67 (a0:TDoc) (a1:Bs) (x3:(TDef×Bool)) :Nat->Nat->(List Bs)->Option (Sl Bs)
 | 0,_,_=>none
 | n67+1,s52_68,y69_id24_5=>bif (decide (((s52_68:Nat):Int)<((x3.1.FMembers.l.length:Nat):Int))) then((x3.1.FMembers.l[s52_68]?).bind fun x75=>(Z13_l67 a0 a1 x3 n67) (s52_68+1) (insS y69_id24_5 x75.FName)) else(Z13_j6 a0 a1 x3  y69_id24_5)
def Z13 (a0:TDoc) (a1:Bs):Option (Sl Bs):=(Z78 a0 a1).bind fun x3=>bif (decide (x3.1.FKind=(1:Int))) then(Z13_j6 a0 a1 x3  (insS ([]:List Bs) a1)) else(bif (decide (x3.1.FKind=(2:Int))) then(Z13_l50 a0 a1 x3 (a0.FDefs.l.length+1) 0 ([]:List Bs)) else(bif (decide (x3.1.FKind=(3:Int))) then(Z13_l67 a0 a1 x3 (x3.1.FMembers.l.length+1) 0 ([]:List Bs)) else(Z13_j6 a0 a1 x3  ([]:List Bs))))
theorem Z13_walk {a0:TDoc}{a1:Bs}{r:Sl Bs}(hE:Z13 a0 a1=some r) (H:Heap) :ACalls Tryz.prog 108 [.agg (TDoc.c a0),.d (.str a1)] H fun v h'=>v=.a (.d (Sl.d 1 strE none r))/\h'=H:=by
 unfold Z13 at hE;refine ACalls.oW 113 [.tmp 4] Tryz.call108 Tryz.func108 ?_;refine AWp.tok 1 fun tk1 htk1=>?_;refine seqR (S BX ?_);refine s0 (assignNil (k':=1) rfl) rfl ?_;refine nil ?_;refine seqR (S Ld (S Mv ?_));obtain⟨x3,gx3,hE⟩:=bO hE;refine Sc rfl rfl (Z78_walk gx3) ?_;refine S Mv (S EX (S EX ?_));refine Sl ?_;refine Sf ?_;refine S As (nil ?_);refine freezeA 5 _ rfl (KA 1 (KA 2 Keeps.nil)) ?_
 refine seqR ?_;refine sE StepE.makeMap rfl (fun _ _ _ ⟨id24_5,hid24_5,e1,e2,e3⟩=>?_); subst e1 e2 e3;obtain⟨ne_id24_5_tk1,hid24_5⟩:=Heap.set_fresh hid24_5;refine hq ((H.set tk1 (some (.tok 1 0))).set id24_5 (some (.map (seenM ([]:List Bs))))) ?_;refine S As (nil ?_);refine seqJH (TA 1 (TA 2 (TA 5 (TA 7 KeepsT.nil)))) (fun(z:(List Bs))=>[]) (fun z=>((H.set tk1 (some (.tok 1 0))).set id24_5 (some (.map (seenM z))))) (fun z=>Z13_j6 a0 a1 x3 z=some r) ?_ ?_
 ·intro K6 hK6;refine seqR (S Fv (S Ld (nil ?_)));refine block ?_;refine seqR (S BI (S As (nil ?_)));refine cE hE (fun hc45 hE=>?_) (fun hc45 hE=>?_)
  ·refine region ?_;refine S Mv (S Mv ?_);refine sHn (mapUpdate (TK rfl) rfl (TK rfl) rfl rfl rfl rfl hpG (seen_upd _ _) rfl) rfl rfl ?_;refine hq ((H.set tk1 (some (.tok 1 0))).set id24_5 (some (.map (seenM (insS ([]:List Bs) a1))))) ?_;refine nil ?_;exact hK6 _ (insS ([]:List Bs) a1) Weak.toA hE
  refine seqR (S BI (S As (nil ?_)));refine cE hE (fun hc47 hE=>?_) (fun hc47 hE=>?_)
  ·refine seqR (S Fv (S Ld ?_));refine sLen (f:=TDef.c) (s:=a0.FDefs) (TK rfl) rfl rfl rfl rfl fun hL49=>?_;refine S Mv (nil ?_);refine block ?_;refine loopH (TA 1 (TA 2 (TA 5 (TA 7 (TA 34 (TA 35 KeepsT.nil)))))) (fun(z:Nat×Nat×(List Bs))=>[(36,.a (.d (.int .i64 ((z.2.1:Nat):Int))))]) (fun z=>((H.set tk1 (some (.tok 1 0))).set id24_5 (some (.map (seenM z.2.2))))) (fun z=>z.1) (fun z=>Z13_l50 a0 a1 x3 z.1 z.2.1 z.2.2=some r) ((a0.FDefs.l.length+1),0,([]:List Bs)) hE Weak.toA ?_
   rintro ⟨n50,s36_51,y52_id24_5⟩ hE K50 hK50;try dsimp only at hE
   cases n50 with
   | zero=>cases hE
   | succ n50 =>
     rw [Z13_l50] at hE;refine seqR (S BI (nil ?_));refine seqK fun K54 hK54=>?_;refine cE hE (fun hc55 hE=>?_) (fun hc55 hE=>?_)
     ·try dsimp only at hc55
      have hf55:=of_decide_eq_true hc55;refine sk hK54 ?_;clear hK54 K54;refine seqJH (TA 1 (TA 2 (TA 5 (TA 7 (TA 34 (TA 35 (TA 36 KeepsT.nil))))))) (fun(z:(List Bs))=>[]) (fun z=>((H.set tk1 (some (.tok 1 0))).set id24_5 (some (.map (seenM z))))) (fun z=>Z13_j56 s36_51 ((Z13_l50 a0 a1 x3 n50)) z=some r) ?_ ?_
      ·intro K56 hK56;refine block ?_;refine seqR ?_;obtain⟨x59,gx59,hE⟩:=bO hE;refine S (ix TDef.c s36_51 gx59) (S Ld ?_);refine Sl ?_;refine Sf ?_;refine nil ?_;refine freezeA 9 _ rfl (KA 1 (KA 2 (KA 5 (KA 7 (KA 34 (KA 35 (KA 36 Keeps.nil))))))) ?_;refine seqR (S Ld (S Mv ?_));obtain⟨x61,gx61,hE⟩:=bO hE;refine Sc rfl rfl (Z14_walk gx61) ?_;refine nil ?_;refine cE hE (fun hc62 hE=>?_) (fun hc62 hE=>?_)
       ·refine region ?_;refine S Mv (S Fv (S Ld ?_));refine sHn (mapUpdate (TK rfl) rfl (TK rfl) rfl rfl rfl rfl hpG (seen_upd _ _) rfl) rfl rfl ?_;refine hq ((H.set tk1 (some (.tok 1 0))).set id24_5 (some (.map (seenM (insS y52_id24_5 x59.FName))))) ?_;refine nil ?_;exact hK56 _ (insS y52_id24_5 x59.FName) Weak.toA hE
       refine AWp.skip ?_;exact hK56 _ y52_id24_5 Weak.toA hE
      rintro y57_id24_5 hE;try dsimp only at hE
      unfold Z13_j56 at hE;refine region ?_;refine SI ?_;refine S Mv (nil ?_);exact hK50 _ (n50,(s36_51+1),y57_id24_5) Weak.toA hE (Nat.lt_succ_self _)
     refine AWp.exit ?_;exact hK6 _ y52_id24_5 Weak.toA hE
  refine seqR (S BI (S As (nil ?_)));refine cE hE (fun hc64 hE=>?_) (fun hc64 hE=>?_)
  ·refine seqR (S Fv (S Ld ?_));refine sLen (f:=Z7.c) (s:=x3.1.FMembers) (TK rfl) rfl rfl rfl rfl fun hL66=>?_;refine S Mv (nil ?_);refine block ?_;refine loopH (TA 1 (TA 2 (TA 5 (TA 7 (TA 50 (TA 51 KeepsT.nil)))))) (fun(z:Nat×Nat×(List Bs))=>[(52,.a (.d (.int .i64 ((z.2.1:Nat):Int))))]) (fun z=>((H.set tk1 (some (.tok 1 0))).set id24_5 (some (.map (seenM z.2.2))))) (fun z=>z.1) (fun z=>Z13_l67 a0 a1 x3 z.1 z.2.1 z.2.2=some r) ((x3.1.FMembers.l.length+1),0,([]:List Bs)) hE Weak.toA ?_
   rintro ⟨n67,s52_68,y69_id24_5⟩ hE K67 hK67;try dsimp only at hE
   cases n67 with
   | zero=>cases hE
   | succ n67 =>
     rw [Z13_l67] at hE;refine seqR (S BI (nil ?_));refine seqK fun K71 hK71=>?_;refine cE hE (fun hc72 hE=>?_) (fun hc72 hE=>?_)
     ·try dsimp only at hc72
      have hf72:=of_decide_eq_true hc72;refine sk hK71 ?_;clear hK71 K71;refine seqK fun K73 hK73=>?_;refine block ?_;refine seqR ?_;obtain⟨x75,gx75,hE⟩:=bO hE;refine S (ix Z7.c s52_68 gx75) (S Ld ?_);refine Sl ?_;refine Sf ?_;refine nil ?_;refine freezeA 11 _ rfl (KA 1 (KA 2 (KA 5 (KA 7 (KA 50 (KA 51 (KA 52 Keeps.nil))))))) ?_;refine region ?_;refine S Mv (S Fv (S Ld ?_));refine sHn (mapUpdate (TK rfl) rfl (TK rfl) rfl rfl rfl rfl hpG (seen_upd _ _) rfl) rfl rfl ?_
      refine hq ((H.set tk1 (some (.tok 1 0))).set id24_5 (some (.map (seenM (insS y69_id24_5 x75.FName))))) ?_;refine nil ?_;refine hK73 _ ?_;clear hK73 K73;refine region ?_;refine SI ?_;refine S Mv (nil ?_);exact hK67 _ (n67,(s52_68+1),(insS y69_id24_5 x75.FName)) Weak.toA hE (Nat.lt_succ_self _)
     refine AWp.exit ?_;exact hK6 _ y69_id24_5 Weak.toA hE
  refine AWp.skip ?_;exact hK6 _ ([]:List Bs) Weak.toA hE
 rintro y7_id24_5 hE;try dsimp only at hE
 unfold Z13_j6 at hE;refine seqJH (TA 2 (TA 7 KeepsT.nil)) (fun(z:(List Bs))=>[]) (fun z=>((H.set tk1 (some (.tok 1 0))).set id24_5 (some (.map (seenM z))))) (fun z=>Z13_j8 a0 z=some r) ?_ ?_
 ·intro K8 hK8;refine seqK fun K33 hK33=>?_;refine AWp.exMap id24_5 (l:=y7_id24_5) hpG fun b34 p34 ck34 hp34=>?_;refine AWp.heqA (h':=((H.set tk1 (some (.tok 1 0))).set id24_5 (some (.fixt b34 (.map (mE p34).toArray ck34))))) (by first|rfl|(rw [Heap.set_set]; rfl)|(funext n_; simp only [Heap.set]; (repeat' split)<;>first|rfl|(exfalso; simp_all; done)|(simp_all; done))) ?_;refine region ?_;refine S Mv ?_
  refine sE (StepE.rangeM (TK rfl) rfl rfl hpG) rfl ?_;rintro _ _ _ ⟨it61_35,rit61_35,hit61_35,rfl,rfl,rfl⟩;obtain⟨ne_it61_35_id24_5,hit61_35⟩:=Heap.set_fresh hit61_35;obtain⟨ne_it61_35_tk1,hit61_35⟩:=Heap.set_fresh hit61_35;refine hq (((H.set tk1 (some (.tok 1 0))).set id24_5 (some (.fixt b34 (.map (mE p34).toArray ck34)))).set it61_35 (some (.fixt rit61_35 (.mapIter (some b34) ck34 (#[]) ck34)))) ?_
  refine nil ?_;refine hK33 _ ?_;clear hK33 K33;refine block ?_;obtain⟨l_36,gl_36,hE⟩:=bO hE;refine loopH (TA 1 (TA 2 (TA 5 (TA 7 (TA 61 KeepsT.nil))))) (fun(z:List (Bs×Nat)×Array Nat)=>[]) (fun z=>(((H.set tk1 (some (.tok 1 0))).set id24_5 (some (.fixt b34 (.map (mE z.1).toArray ck34)))).set it61_35 (some (.fixt rit61_35 (.mapIter (some b34) ck34 z.2 ck34))))) (fun z=>(leftP z.1 z.2).length) (fun z=>RInv (Z13_k36 a0 a1 x3) l_36 ck34 z) (p34,#[]) (RInv.start gl_36 hp34) Weak.toA ?_
  rintro ⟨p_36,sn_36⟩ hI K36 hK36;try dsimp only at hI
  refine seqK fun Ka36 hKa36=>?_;refine region ?_;refine sE (StepE.nextM (id:=id24_5) rfl hpG hpG hI.pop.lt (fun x hx=>hI.pop.len _ (List.mem_map_of_mem hx))) rfl ?_;rintro _ _ _ ⟨rfl,⟨hl0,rfl,rfl⟩|⟨s_36,n_36,hx_,rfl,rfl⟩⟩
  ·refine S EX (nil ?_);refine hKa36 _ ?_;refine seqK fun Kb36 hKb36=>?_;refine AWp.mapEx id24_5 hpG hI.pop ?_;rw [hI.done hl0];refine AWp.heqA (h':=(((H.set tk1 (some (.tok 1 0))).set id24_5 (some (.map (seenM l_36)))).set it61_35 (some (.fixt rit61_35 (.mapIter (some b34) ck34 sn_36 ck34))))) (by first|rfl|(rw [Heap.set_set]; rfl)|(funext n_; simp only [Heap.set]; (repeat' split)<;>first|rfl|(exfalso; simp_all; done)|(simp_all; done))) ?_
   refine AWp.cond rfl (fun h_=>by cases h_) fun _=>?_;refine AWp.exit ?_;exact hK8 _ l_36 (Weak.toFA (by(intro id_ o_ he_); (have e_it61_35:id_≠it61_35:=fun e_=>by rw [e_] at he_; simp [Heap.set,hit61_35,ne_it61_35_tk1,ne_it61_35_id24_5] at he_); (rw [<- he_]); (simp only [Heap.set,if_neg e_it61_35]); (first|done|rfl))) hE
  obtain⟨r,hb_⟩:=hI.told _ (leftP_mem hx_).1;have hE:=hb_;simp only at hE;unfold Z13_k36 at hE;refine hq (((H.set tk1 (some (.tok 1 0))).set id24_5 (some (.fixt b34 (.map (mE p_36).toArray ck34)))).set it61_35 (some (.fixt rit61_35 (.mapIter (some b34) ck34 (sn_36.push n_36) ck34)))) ?_;refine S EX (nil ?_);refine hKa36 _ ?_;refine seqK fun Kb36 hKb36=>?_;refine AWp.cond rfl (fun _=>?_) (fun h_=>by cases h_)
  refine AWp.skip ?_;refine hKb36 _ ?_;refine block ?_;refine seqR ?_;refine s0 (entryM (id:=id24_5) rfl hpG hpG (leftP_mem hx_).1 hI.pop.nodup (hI.pop.len _ (List.mem_map_of_mem (leftP_mem hx_).1))) rfl ?_;refine S EX (S As (nil ?_));refine seqR (S Ld (S Mv ?_));obtain⟨x39,gx39,hE⟩:=bO hE;refine Sc rfl rfl (Z78_walk gx39) ?_;refine S Mv (S EX (S EX ?_));refine Sl ?_;refine Sf ?_;refine S As (nil ?_)
  refine freezeA 13 _ rfl (KA 1 (KA 2 (KA 5 (KA 7 (KA 12 (KA 14 (KA 61 Keeps.nil))))))) ?_;refine seqR (S Mv (S NB (S Mv (G0 Fv ?_))));refine G1 75 rfl Ld ?_;refine G1 76 rfl BI ?_;refine S PO (S Mv (G0 Fv ?_));refine G1 80 rfl Ld ?_;refine G1 81 rfl BI ?_;refine G1 82 rfl Mv ?_;refine G0 Ld (G0 Mv ?_);obtain⟨x41,gx41,hE⟩:=gO hE;refine Gc2 84 85 rfl rfl rfl rfl rfl rfl (fun hC=>Z14_walk (gx41 hC)) ?_
  refine G1 86 rfl NB ?_;refine gC rfl rfl (fun hC=>ungdA (k:=83) rfl (pickAndA rfl rfl rfl)) rfl ?_;refine S PO (nil ?_);refine cE hE (fun hc42 hE=>?_) (fun hc42 hE=>?_)
  ·refine region ?_;refine S Mv (S Mv ?_);refine sHn (deleteF (TK rfl) rfl (TK rfl) rfl rfl rfl rfl hpG (fun x hx=>hI.pop.len _ (List.mem_map_of_mem hx))) rfl rfl ?_;refine hq (((H.set tk1 (some (.tok 1 0))).set id24_5 (some (.fixt b34 (.map (mE (delP p_36 s_36)).toArray ck34)))).set it61_35 (some (.fixt rit61_35 (.mapIter (some b34) ck34 (sn_36.push n_36) ck34)))) ?_;refine nil ?_;obtain rfl:=Option.some.inj hE
   obtain⟨hI2,hm2⟩:=hI.drop hx_ hb_;exact hK36 _ ((delP p_36 s_36),sn_36.push n_36) Weak.toA hI2 hm2
  refine AWp.skip ?_;obtain rfl:=Option.some.inj hE;obtain⟨hI2,hm2⟩:=hI.keep hx_ hb_;exact hK36 _ (p_36,sn_36.push n_36) Weak.toA hI2 hm2
 rintro y9_id24_5 hE;try dsimp only at hE
 unfold Z13_j8 at hE;refine seqR (S As (nil ?_));refine AWp.nilTok 15 1 tk1 rfl hpG ?_;refine seqJH KeepsT.nil (fun(z:(Sl Bs)×(List Bs))=>[(15,.a (.d (Sl.d 1 strE (some tk1) z.1)))]) (fun z=>((H.set tk1 (some (.tok 1 z.1.l.length))).set id24_5 (some (.map (seenM z.2))))) (fun z=>Z13_j11 z.1 z.2=some r) ?_ ?_
 ·intro K11 hK11;refine seqR (S Fv (S Ld ?_));refine sLen (f:=TDef.c) (s:=a0.FDefs) (TK rfl) rfl rfl rfl rfl fun hL16=>?_;refine S Mv (nil ?_);refine block ?_;refine loopH (TA 7 (TA 93 (TA 94 KeepsT.nil))) (fun(z:Nat×(Sl Bs)×Nat×(List Bs))=>[(15,.a (.d (Sl.d 1 strE (some tk1) z.2.1))),(95,.a (.d (.int .i64 ((z.2.2.1:Nat):Int))))]) (fun z=>((H.set tk1 (some (.tok 1 z.2.1.l.length))).set id24_5 (some (.map (seenM z.2.2.2))))) (fun z=>z.1) (fun z=>Z13_l17 a0 z.1 z.2.1 z.2.2.1 z.2.2.2=some r) ((a0.FDefs.l.length+1),(Sl.nil:Sl Bs),0,y9_id24_5) hE Weak.toA ?_
  rintro ⟨n17,s15_18,s95_19,y20_id24_5⟩ hE K17 hK17;try dsimp only at hE
  cases n17 with
  | zero=>cases hE
  | succ n17 =>
    rw [Z13_l17] at hE;refine seqR (S BI (nil ?_));refine seqK fun K22 hK22=>?_;refine cE hE (fun hc23 hE=>?_) (fun hc23 hE=>?_)
    ·try dsimp only at hc23
     have hf23:=of_decide_eq_true hc23;refine sk hK22 ?_;clear hK22 K22;refine seqJH (TA 7 (TA 93 (TA 94 (TA 95 KeepsT.nil)))) (fun(z:(Sl Bs)×(List Bs))=>[(15,.a (.d (Sl.d 1 strE (some tk1) z.1)))]) (fun z=>((H.set tk1 (some (.tok 1 z.1.l.length))).set id24_5 (some (.map (seenM z.2))))) (fun z=>Z13_j24 s95_19 ((Z13_l17 a0 n17)) z.1 z.2=some r) ?_ ?_
     ·intro K24 hK24;refine block ?_;refine seqR ?_;obtain⟨x28,gx28,hE⟩:=bO hE;refine S (ix TDef.c s95_19 gx28) (S Ld ?_);refine Sl ?_;refine Sf ?_;refine nil ?_;refine freezeA 17 _ rfl (KA 7 (KA 15 (KA 93 (KA 94 (KA 95 Keeps.nil))))) ?_;refine seqR (S Mv (S Fv (S Ld ?_)));refine s0 (lookupSeen (TK rfl) rfl (TK rfl) (TK rfl) rfl rfl rfl rfl hpG) rfl ?_;refine nil ?_;refine cE hE (fun hc30 hE=>?_) (fun hc30 hE=>?_)
      ·refine seqR (S Mv (S Fv (S Ld (S BV ?_))));obtain⟨x32,gx32,hE⟩:=bO hE;refine SH (am strE (TK rfl) rfl (TK rfl) (TK rfl) gx32) ?_;refine hq ((H.set tk1 (some (.tok 1 x32.l.length))).set id24_5 (some (.map (seenM y20_id24_5)))) ?_;refine S As (nil ?_);refine region ?_;refine S Mv (S Fv (S Ld ?_));refine sHn (deleteM (TK rfl) rfl (TK rfl) rfl rfl rfl rfl hpG) rfl rfl ?_;refine hq ((H.set tk1 (some (.tok 1 x32.l.length))).set id24_5 (some (.map (seenM (List.erase y20_id24_5 x28.FName))))) ?_
       refine nil ?_;exact hK24 _ (x32,(List.erase y20_id24_5 x28.FName)) Weak.toA hE
      refine AWp.skip ?_;exact hK24 _ (s15_18,y20_id24_5) Weak.toA hE
     rintro ⟨s15_25,y26_id24_5⟩ hE;try dsimp only at hE
     unfold Z13_j24 at hE;refine region ?_;refine SI ?_;refine S Mv (nil ?_);exact hK17 _ (n17,s15_25,(s95_19+1),y26_id24_5) Weak.toA hE (Nat.lt_succ_self _)
    refine AWp.exit ?_;exact hK11 _ (s15_18,y20_id24_5) Weak.toA hE
 rintro ⟨s15_12,y13_id24_5⟩ hE;try dsimp only at hE
 unfold Z13_j11 at hE;refine seqR (S Mv (S As (nil ?_)));refine AWp.dropTok 4 rfl ?_;refine AWp.ret ?_;repeat (first|refine xBlock_ret ?_|refine xThen_ret ?_)
 obtain rfl:=Option.some.inj hE;refine retQ.retF H rfl ⟨rfl,rfl⟩ ?_;intro id_ o_ he_;have e_tk1:id_≠tk1:=fun e_=>by subst e_; simp_all [Heap.set]
 have e_id24_5:id_≠id24_5:=fun e_=>by subst e_; simp_all [Heap.set]
 rw [<- he_];simp only [Heap.set] at he_ ⊢
 (repeat' split)<;>simp_all
end Go.Proofs

namespace Go.Proofs
open Go Go.Ab
open AOps Cert AWp Keeps KeepsT
variable {lou:Lou}
def Z108_j2  :Option Int:=some (-1:Int)
def Z108_l6 (a0:(Sl Bs)) (a1:(Bs->Option Bool)) :Nat->Nat->Option Int
 | 0,_=>none
 | n6+1,s8_7=>bif (decide (((s8_7:Nat):Int)<((a0.l.length:Nat):Int))) then((a0.l[s8_7]?).bind fun x14=>(a1 x14).bind fun x15=>bif x15 then(some ((s8_7:Nat):Int)) else((Z108_l6 a0 a1 n6) (s8_7+1))) else(Z108_j2   )
def Z108 (a0:(Sl Bs)) (a1:(Bs->Option Bool)):Option Int:=Z108_l6 a0 a1 (a0.l.length+1) 0
theorem Z108_walk {a0:Sl Bs}{a1:Bs->Option Bool}{w0:Option Nat}{cl1:List D}{k1:Nat}{r:Int}(hE:Z108 a0 a1=some r) (H:Heap) (hf1:∀x0 r,a1 x0=some r->∀H,ACalls Tryz.prog k1 ([.d (.str x0)]++cl1.map A.d) H fun v h'=>v=.a (.d (.bool r))/\h'=H):ACalls Tryz.prog 126 [.d (Sl.d 1 strE w0 a0),.d (.func k1 cl1)] H fun v h'=>v=.a (.d (.int .i64 r))/\h'=H:=by
 unfold Z108 at hE;refine ACalls.oW 19 [.tmp 4] Tryz.call126 Tryz.func126 ?_;refine seqR (S As (nil ?_));refine seqJH KeepsT.nil (fun(z:Unit)=>[]) (fun z=>H) (fun z=>Z108_j2 =some r) ?_ ?_
 ·intro K2 hK2;refine seqR (S Mv ?_);refine sLen (f:=strE) (s:=a0) (TK rfl) rfl rfl rfl rfl fun hL5=>?_;refine S Mv (nil ?_);refine block ?_;refine loopH (TA 0 (TA 1 (TA 7 KeepsT.nil))) (fun(z:Nat×Nat)=>[(8,.a (.d (.int .i64 ((z.2:Nat):Int))))]) (fun z=>H) (fun z=>z.1) (fun z=>Z108_l6 a0 a1 z.1 z.2=some r) ((a0.l.length+1),0) hE Weak.toA ?_;rintro ⟨n6,s8_7⟩ hE K6 hK6;try dsimp only at hE
  cases n6 with
  | zero=>cases hE
  | succ n6 =>
    rw [Z108_l6] at hE;refine seqR (S BI (nil ?_));refine seqK fun K9 hK9=>?_;refine cE hE (fun hc10 hE=>?_) (fun hc10 hE=>?_)
    ·try dsimp only at hc10
     have hf10:=of_decide_eq_true hc10;refine sk hK9 ?_;clear hK9 K9;refine seqK fun K11 hK11=>?_;refine block ?_;refine seqR (S Mv (S As (nil ?_)));refine seqR (S Mv (S Mv (S Mv ?_)));obtain⟨x14,gx14,hE⟩:=bO hE;refine S (ix strE s8_7 gx14) (S Ld ?_);obtain⟨x15,gx15,hE⟩:=bO hE;refine s0 (callP rfl rfl (hf1 _ _ gx15)) rfl ?_;refine nil ?_;refine cE hE (fun hc16 hE=>?_) (fun hc16 hE=>?_)
     ·refine seqR (S Mv (S As (nil ?_)));exact rt hE
     refine sk hK11 ?_;clear hK11 K11;refine region ?_;refine SI ?_;refine S Mv (nil ?_);exact hK6 _ (n6,(s8_7+1)) Weak.toA hE (Nat.lt_succ_self _)
    refine AWp.exit ?_;exact hK2 _ () Weak.toA hE
 rintro _ hE;try dsimp only at hE
 unfold Z108_j2 at hE;refine seqR (S As (nil ?_));exact rt hE
def Z101 (a0:(Sl Bs)) (a1:(Bs->Option Bool)):Option Bool:=(Z108 a0 a1).bind fun x3=>some (decide ((0:Int)<=x3))
theorem Z101_walk {a0:Sl Bs}{a1:Bs->Option Bool}{w0:Option Nat}{cl1:List D}{k1:Nat}{r:Bool}(hE:Z101 a0 a1=some r) (H:Heap) (hf1:∀x0 r,a1 x0=some r->∀H,ACalls Tryz.prog k1 ([.d (.str x0)]++cl1.map A.d) H fun v h'=>v=.a (.d (.bool r))/\h'=H):ACalls Tryz.prog 109 [.d (Sl.d 1 strE w0 a0),.d (.func k1 cl1)] H fun v h'=>v=.a (.d (.bool r))/\h'=H:=by
 unfold Z101 at hE;refine ACalls.oW 9 [.tmp 4] Tryz.call109 Tryz.func109 ?_;refine seqR (S As (nil ?_));refine seqR (S Mv (S Mv ?_));obtain⟨x3,gx3,hE⟩:=bO hE;refine s0 (callP rfl rfl (fun H=>Z108_walk gx3 H hf1)) rfl ?_;refine S BI (S As (nil ?_));exact rt hE
def Z12 (a0:Bs) (a1:(Sl Bs)):Option Bool:=(Z102 a1 a0).bind fun x3=>some x3
theorem Z12_walk {a0:Bs}{a1:Sl Bs}{r:Bool}(hE:Z12 a0 a1=some r) (H:Heap) :ACalls Tryz.prog 110 [.d (.str a0),.d (.view ((fun s=>[Sl.d 1 strE none s]) a1))] H fun v h'=>v=.a (.d (.bool r))/\h'=H:=by
 unfold Z12 at hE;refine ACalls.oW 7 [.tmp 3] Tryz.call110 Tryz.func110 ?_;refine seqR (S As (nil ?_));refine seqR (S Ld (S Mv ?_));obtain⟨x3,gx3,hE⟩:=bO hE;refine Sc rfl rfl (Z102_walk gx3) ?_;refine S As (nil ?_);exact rt hE
def Z11 (a0:TDoc) (a1:Bs) (a2:Bs):Option Bool:=(Z13 a0 a2).bind fun x3=>(Z13 a0 a1).bind fun x5=>(Z101 x5 (fun y0=>Z12 y0 x3)).bind fun x6=>some x6
theorem Z11_walk {a0:TDoc}{a1 a2:Bs}{r:Bool}(hE:Z11 a0 a1 a2=some r) (H:Heap) :ACalls Tryz.prog 85 [.agg (TDoc.c a0),.d (.str a1),.d (.str a2)] H fun v h'=>v=.a (.d (.bool r))/\h'=H:=by
 unfold Z11 at hE;refine ACalls.oW 16 [.tmp 6] Tryz.call85 Tryz.func85 ?_;refine seqR (S BX (S As (nil ?_)));refine seqR (S Ld (S Mv ?_));obtain⟨x3,gx3,hE⟩:=bO hE;refine Sc rfl rfl (Z13_walk gx3) ?_;refine Sl ?_;refine Sf ?_;refine nil ?_;refine freezeA 7 _ rfl (KA 1 (KA 3 Keeps.nil)) ?_;refine seqR (S Ld (S Mv ?_));obtain⟨x5,gx5,hE⟩:=bO hE;refine Sc rfl rfl (Z13_walk gx5) ?_;refine s0 (makeFunc rfl) rfl ?_
 obtain⟨x6,gx6,hE⟩:=bO hE;refine s0 (callP rfl rfl (fun H=>Z101_walk gx6 H (fun _ _ hx=>Z12_walk hx))) rfl ?_;refine S As (nil ?_);exact rt hE
def Z36 (a0:Z1) (a1:Bs) (a2:Bs):Option Bool:=(Z76 a0.Fd a1).bind fun x3=>guardO (x3) (Z11 a0.Fd a1 a2) false fun x4=>some (x3&&(!x4))
theorem Z36_walk {a0:Z1}{a1 a2:Bs}{q0_2:Option Nat}{c0:Nat}{r:Bool}(hE:Z36 a0 a1 a2=some r) (H:Heap) (hc0:H c0=some (.cells (Z1.cg q0_2 a0))):ACalls Tryz.prog 51 [.d (.ptr c0 0),.d (.str a1),.d (.str a2)] H fun v h'=>v=.a (.d (.bool r))/\h'=H:=by
 unfold Z36 at hE;refine ACalls.oW 23 [.tmp 6] Tryz.call51 Tryz.func51 ?_;refine seqR (S As (nil ?_));refine seqR (S Mv (S NP ?_));refine s0 (fieldP (TK rfl) rfl rfl (TK rfl) rfl rfl) rfl ?_;refine s0 (loadP (TK rfl) rfl rfl hpG rfl) rfl ?_;refine S Mv ?_;obtain⟨x3,gx3,hE⟩:=bO hE;refine Sc rfl rfl (Z76_walk gx3) ?_;refine S Mv (G0 Mv ?_);refine G1 14 rfl NP ?_;refine gC rfl rfl (fun hC=>ungdA (k:=15) rfl (fieldP (TK rfl) rfl rfl (TK rfl) rfl rfl)) rfl ?_
 refine gC rfl rfl (fun hC=>ungdA (k:=16) rfl (loadP (TK rfl) rfl rfl hpG rfl)) rfl ?_;refine G0 Mv (G0 Mv ?_);obtain⟨x4,gx4,hE⟩:=gO hE;refine gC rfl rfl (fun hC=>ungdA (k:=17) rfl (ungdA (k:=18) rfl (ungdA (k:=19) rfl (callP rfl rfl (fun H=>Z11_walk (gx4 hC) H))))) rfl ?_;refine G1 20 rfl NB ?_;refine S PA (S As (nil ?_));exact rt hE
def Z77_j2  (y3_l0:Z4):Option (Z4×Bool):=some ((Z4.mk ([]:Bs) (Sl.nil:Sl Z6) TRef.zero (Sl.nil:Sl TDir)),false)
def Z77_l7 (a0:TDef) (a1:Bs) :Nat->Nat->Z4->Option (Z4×Bool)
 | 0,_,_=>none
 | n7+1,s11_8,y9_l0=>bif (decide (((s11_8:Nat):Int)<((a0.FFields.l.length:Nat):Int))) then((a0.FFields.l[s11_8]?).bind fun x15=>bif ((x15.FName==a1)) then(some (x15,true)) else((Z77_l7 a0 a1 n7) (s11_8+1) y9_l0)) else(Z77_j2   y9_l0)
def Z77 (a0:TDef) (a1:Bs):Option (Z4×Bool):=Z77_l7 a0 a1 (a0.FFields.l.length+1) 0 Z4.zero
theorem Z77_walk {a0:TDef}{a1:Bs}{r:Z4×Bool}(hE:Z77 a0 a1=some r) (H:Heap) :ACalls Tryz.prog 52 [.agg (TDef.c a0),.d (.str a1)] H fun v h'=>v=.tup [.agg (Z4.c r.1),.d (.bool r.2)]/\h'=H:=by
 unfold Z77 at hE;refine ACalls.oW 22 [.cell 4 105,.tmp 5] Tryz.call52 Tryz.func52 ?_;refine seqR (S BX ?_);refine Sl ?_;refine S As (nil ?_);refine seqJ (TA 4 KeepsT.nil) (fun(z:Z4)=>[]) (fun z=>[Z4.c z]) (fun z=>H) (fun z=>Z77_j2 z=some r) ?_ ?_
 ·intro K2 hK2;refine seqR (S Fv (S Ld ?_));refine sLen (f:=Z4.c) (s:=a0.FFields) (TK rfl) rfl rfl rfl rfl fun hL6=>?_;refine S Mv (nil ?_);refine block ?_;refine loopO (TA 1 (TA 4 (TA 9 (TA 10 KeepsT.nil)))) (fun(z:Nat×Nat×Z4)=>[(11,.a (.d (.int .i64 ((z.2.1:Nat):Int))))]) (fun z=>[Z4.c z.2.2]) (fun z=>H) (fun z=>z.1) (fun z=>Z77_l7 a0 a1 z.1 z.2.1 z.2.2=some r) ((a0.FFields.l.length+1),0,Z4.zero) hE Weak.toA ?_
  rintro ⟨n7,s11_8,y9_l0⟩ hE K7 hK7;try dsimp only at hE
  cases n7 with
  | zero=>cases hE
  | succ n7 =>
    rw [Z77_l7] at hE;refine seqR (S BI (nil ?_));refine seqK fun K11 hK11=>?_;refine cE hE (fun hc12 hE=>?_) (fun hc12 hE=>?_)
    ·try dsimp only at hc12
     have hf12:=of_decide_eq_true hc12;refine sk hK11 ?_;clear hK11 K11;refine seqK fun K13 hK13=>?_;refine block ?_;refine seqR ?_;obtain⟨x15,gx15,hE⟩:=bO hE;refine S (ix Z4.c s11_8 gx15) (S Ld ?_);refine Sl ?_;refine Sf ?_;refine nil ?_;refine freezeA 7 _ rfl (KA 1 (KA 4 (KA 9 (KA 10 (KA 11 Keeps.nil))))) ?_;refine seqR (S Fv (S Ld (S Mv (S BS (nil ?_)))));refine cE hE (fun hc17 hE=>?_) (fun hc17 hE=>?_)
     ·refine seqR (S Ld ?_);refine Sf ?_;refine S As (nil ?_);exact rt hE
     refine sk hK13 ?_;clear hK13 K13;refine region ?_;refine SI ?_;refine S Mv (nil ?_);exact hK7 _ (n7,(s11_8+1),y9_l0) Weak.toA hE (Nat.lt_succ_self _)
    refine AWp.exit ?_;exact hK2 _ y9_l0 Weak.toA hE
 rintro y3_l0 hE;try dsimp only at hE
 unfold Z77_j2 at hE;refine seqR (S BU ?_);refine Sf ?_;refine S As (nil ?_);exact rt hE
def Z37_j9 (s22_4:Nat) (k_next_3:Nat->Z1->Option Z1) (y10_c0:Z1):Option Z1:=k_next_3 (s22_4+1) y10_c0
def Z37_j26 (a3:Bs) (s22_4:Nat) (x12:TSel) (k_next_3:Nat->Z1->Option Z1) (k_rec_22:Z1->(Sl TSel)->Bs->Bs->Option Z1) (s12_27:Bs) (y28_c0:Z1):Option Z1:=(k_rec_22 y28_c0 x12.FSels s12_27 a3).bind fun x29=>Z37_j9 s22_4 k_next_3 x29
def Z37_j42 (a3:Bs) (s22_4:Nat) (y5_c0:Z1) (x12:TSel) (s14_41:Bs) (k_next_3:Nat->Z1->Option Z1) (k_rec_22:Z1->(Sl TSel)->Bs->Bs->Option Z1) (s15_43:Bs):Option Z1:=(catC a3 ([47]:Bs)).bind fun x44=>(catC x44 s14_41).bind fun x45=>(k_rec_22 y5_c0 x12.FSels s15_43 x45).bind fun x46=>Z37_j9 s22_4 k_next_3 x46
def Z37_j40 (a2:Bs) (a3:Bs) (s22_4:Nat) (y5_c0:Z1) (x12:TSel) (k_next_3:Nat->Z1->Option Z1) (k_rec_22:Z1->(Sl TSel)->Bs->Bs->Option Z1) (s14_41:Bs):Option Z1:=(Z78 y5_c0.Fd a2).bind fun x48=>guardO (x48.2) (Z76 y5_c0.Fd a2) false fun x50=>bif (x48.2&&x50) then((Z77 x48.1 x12.FName).bind fun x53=>bif x53.2 then(Z37_j42 a3 s22_4 y5_c0 x12 s14_41 k_next_3 k_rec_22 x53.1.FType.FName) else(Z37_j42 a3 s22_4 y5_c0 x12 s14_41 k_next_3 k_rec_22 ([]:Bs))) else(Z37_j42 a3 s22_4 y5_c0 x12 s14_41 k_next_3 k_rec_22 ([]:Bs))
def Z37_l3 (a1:(Sl TSel)) (a2:Bs) (a3:Bs) (k_rec_22:Z1->(Sl TSel)->Bs->Bs->Option Z1):Nat->Nat->Z1->Option Z1
 | 0,_,_=>none
 | n3+1,s22_4,y5_c0=>bif (decide (((s22_4:Nat):Int)<((a1.l.length:Nat):Int))) then((a1.l[s22_4]?).bind fun x12=>bif (decide (x12.FKind=(2:Int))) then((Z33 y5_c0.Fq x12.FName).bind fun x17=>(Z35 y5_c0 (!x17.2) (24:Int) a3).bind fun x19=>guardO (x17.2) (Z76 x19.Fd x17.1.FOn) false fun x20=>guardO ((x17.2&&x20)) (Z36 x19 a2 x17.1.FOn) false fun x21=>(Z35 x19 ((x17.2&&x20)&&x21) (25:Int) a3).bind fun x22=>Z37_j9 s22_4 ((Z37_l3 a1 a2 a3 k_rec_22 n3)) x22) else(bif (decide (x12.FKind=(3:Int))) then(bif (!(x12.FOn==([]:Bs))) then((Z76 y5_c0.Fd x12.FOn).bind fun x34=>(Z35 y5_c0 (!x34) (24:Int) a3).bind fun x36=>guardO (x34) (Z36 x36 a2 x12.FOn) false fun x37=>(Z35 x36 (x34&&x37) (25:Int) a3).bind fun x38=>Z37_j26 a3 s22_4 x12 ((Z37_l3 a1 a2 a3 k_rec_22 n3)) k_rec_22 x12.FOn x38) else(Z37_j26 a3 s22_4 x12 ((Z37_l3 a1 a2 a3 k_rec_22 n3)) k_rec_22 a2 y5_c0)) else(bif ((x12.FAlias==([]:Bs))) then(Z37_j40 a2 a3 s22_4 y5_c0 x12 ((Z37_l3 a1 a2 a3 k_rec_22 n3)) k_rec_22 x12.FName) else(Z37_j40 a2 a3 s22_4 y5_c0 x12 ((Z37_l3 a1 a2 a3 k_rec_22 n3)) k_rec_22 x12.FAlias)))) else(some y5_c0)
def Z37_n:Nat->Z1->(Sl TSel)->Bs->Bs->Option Z1
 | 0,_,_,_,_=>none
 | n+1,a0,a1,a2,a3=>Z37_l3 a1 a2 a3 (Z37_n n) (a1.l.length+1) 0 a0
theorem Z37_step (n:Nat) (ih_22:∀{a0:Z1}{a1:Sl TSel}{a2 a3:Bs}{w1:Option Nat}{c0 c0_2:Nat}{r:Z1},Z37_n n a0 a1 a2 a3=some r->∀(H:Heap) (hc0:H c0=some (.cells (Z1.cg (some c0_2) a0))) (ht0_2:H c0_2=some (.tok 2 a0.Fout.l.length)),ACalls Tryz.prog 22 [.d (.ptr c0 0),.d (Sl.d 7 TSel.c w1 a1),.d (.str a2),.d (.str a3)] H fun v h'=>v=.tup []/\h'=((H.set c0_2 (some (.tok 2 r.Fout.l.length))).set c0 (some (.cells (Z1.cg (some c0_2) r))))):∀{a0:Z1}{a1:Sl TSel}{a2 a3:Bs}{w1:Option Nat}{c0 c0_2:Nat}{r:Z1},Z37_n (n+1) a0 a1 a2 a3=some r->∀(H:Heap) (hc0:H c0=some (.cells (Z1.cg (some c0_2) a0))) (ht0_2:H c0_2=some (.tok 2 a0.Fout.l.length)),ACalls Tryz.prog 22 [.d (.ptr c0 0),.d (Sl.d 7 TSel.c w1 a1),.d (.str a2),.d (.str a3)] H fun v h'=>v=.tup []/\h'=((H.set c0_2 (some (.tok 2 r.Fout.l.length))).set c0 (some (.cells (Z1.cg (some c0_2) r)))):=by
 intro a0 a1 a2 a3 w1 c0 c0_2 r hE H hc0 ht0_2;rw [Z37_n] at hE;refine ACalls.oW 147 [] Tryz.call22 Tryz.func22 ?_;have ne_c0_c0_2:c0≠c0_2:=fun e_=>by subst e_; simp_all
 refine AWp.heqA (h':=((H.set c0_2 (some (.tok 2 a0.Fout.l.length))).set c0 (some (.cells (Z1.cg (some c0_2) a0))))) (by funext n_; simp only [Heap.set]; (repeat' split)<;>simp_all) ?_;refine seqR (S Mv ?_);refine sLen (f:=TSel.c) (s:=a1) (TK rfl) rfl rfl rfl rfl fun hL2=>?_;refine S Mv (nil ?_);refine block ?_;refine loopH (TA 0 (TA 2 (TA 3 (TA 20 (TA 21 KeepsT.nil))))) (fun(z:Nat×Nat×Z1)=>[(22,.a (.d (.int .i64 ((z.2.1:Nat):Int))))]) (fun z=>((H.set c0_2 (some (.tok 2 z.2.2.Fout.l.length))).set c0 (some (.cells (Z1.cg (some c0_2) z.2.2))))) (fun z=>z.1) (fun z=>Z37_l3 a1 a2 a3 (Z37_n n) z.1 z.2.1 z.2.2=some r) ((a1.l.length+1),0,a0) hE Weak.toA ?_
 rintro ⟨n3,s22_4,y5_c0⟩ hE K3 hK3;try dsimp only at hE
 cases n3 with
 | zero=>cases hE
 | succ n3 =>
   rw [Z37_l3] at hE;refine seqR (S BI (nil ?_));refine seqK fun K7 hK7=>?_;refine cE hE (fun hc8 hE=>?_) (fun hc8 hE=>?_)
   ·try dsimp only at hc8
    have hf8:=of_decide_eq_true hc8;refine sk hK7 ?_;clear hK7 K7;refine seqJH (TA 0 (TA 2 (TA 3 (TA 20 (TA 21 (TA 22 KeepsT.nil)))))) (fun(z:Z1)=>[]) (fun z=>((H.set c0_2 (some (.tok 2 z.Fout.l.length))).set c0 (some (.cells (Z1.cg (some c0_2) z))))) (fun z=>Z37_j9 s22_4 ((Z37_l3 a1 a2 a3 (Z37_n n) n3)) z=some r) ?_ ?_
    ·intro K9 hK9;refine block ?_;refine seqR ?_;obtain⟨x12,gx12,hE⟩:=bO hE;refine S (ix TSel.c s22_4 gx12) (S Ld ?_);refine Sl ?_;refine Sf ?_;refine nil ?_;refine freezeA 9 _ rfl (KA 0 (KA 2 (KA 3 (KA 20 (KA 21 (KA 22 Keeps.nil)))))) ?_;refine seqR (S Fv (S Ld (nil ?_)));refine block ?_;refine seqR (S BI (S As (nil ?_)));refine cE hE (fun hc15 hE=>?_) (fun hc15 hE=>?_)
     ·refine AWp.seqD (Sd Mv (Sd NP ?_));refine DOps.s0 (fieldP (TK rfl) rfl rfl (TK rfl) rfl rfl) rfl ?_;refine DOps.s0 (loadP (TK rfl) rfl rfl hpG rfl) rfl ?_;refine Sd Fv (Sd Ld ?_);obtain⟨x17,gx17,hE⟩:=bO hE;refine Scd rfl rfl (Z33_walk gx17) ?_;refine Sd Mv (Sd EX (Sd EX ?_));refine DOps.sB (TK rfl) rfl rfl ?_ (by repeat (first|exact Snoc.nil|apply Snoc.cons));refine DOps.sLn (storeLFA (TK rfl) rfl rfl rfl rfl rfl) ?_
      refine Sd As ?_;refine DOps.nil (by decide +kernel) ?_;refine freezeA 10 _ rfl (KA 0 (KA 2 (KA 3 (KA 11 (KA 20 (KA 21 (KA 22 Keeps.nil))))))) ?_;refine seqR (S Mv (S Mv (S NB (S Mv ?_))));obtain⟨x19,gx19,hE⟩:=bO hE;refine sH (callH rfl rfl (Z35_walk gx19 _ hpG hpG)) rfl ?_;refine hq ((H.set c0_2 (some (.tok 2 x19.Fout.l.length))).set c0 (some (.cells (Z1.cg (some c0_2) x19)))) ?_;refine nil ?_
      refine AWp.draw rfl ?_;refine Sd Mv (Sd Mv (Sd Mv (G0d Mv ?_)));refine G1d 92 rfl NP ?_;refine DOps.gC rfl rfl (fun hC=>ungdA (k:=93) rfl (fieldP (TK rfl) rfl rfl (TK rfl) rfl rfl)) rfl ?_;refine DOps.gC rfl rfl (fun hC=>ungdA (k:=94) rfl (loadP (TK rfl) rfl rfl hpG rfl)) rfl ?_;refine G0d Fv ?_;refine G1d 96 rfl Ld ?_;obtain⟨x20,gx20,hE⟩:=gO hE;refine Gc2d 95 97 rfl rfl rfl rfl rfl rfl (fun hC=>Z76_walk (gx20 hC)) ?_
      refine Sd PA (Sd Mv (G0d Mv (G0d Mv (G0d Fv ?_))));refine G1d 103 rfl Ld ?_;obtain⟨x21,gx21,hE⟩:=gO hE;refine DOps.gC rfl rfl (fun hC=>ungdA (k:=101) rfl (ungdA (k:=102) rfl (ungdA (k:=104) rfl (callR rfl rfl (Z36_walk (gx21 hC) _ hpG))))) rfl ?_;refine Sd PA (Sd Mv ?_);obtain⟨x22,gx22,hE⟩:=bO hE;refine DOps.sH (callH rfl rfl (Z35_walk gx22 _ hpG hpG)) rfl ?_;refine DOps.Dh ((H.set c0_2 (some (.tok 2 x22.Fout.l.length))).set c0 (some (.cells (Z1.cg (some c0_2) x22)))) ?_
      refine DOps.nil (by decide +kernel) ?_;exact hK9 _ x22 Weak.toA hE
     refine seqR (S BI (S As (nil ?_)));refine cE hE (fun hc24 hE=>?_) (fun hc24 hE=>?_)
     ·refine seqR (S Mv (S As (nil ?_)));refine seqJH (TA 0 (TA 2 (TA 3 (TA 9 (TA 20 (TA 21 (TA 22 KeepsT.nil))))))) (fun(z:Bs×Z1)=>[(12,.a (.d (.str z.1)))]) (fun z=>((H.set c0_2 (some (.tok 2 z.2.Fout.l.length))).set c0 (some (.cells (Z1.cg (some c0_2) z.2))))) (fun z=>Z37_j26 a3 s22_4 x12 ((Z37_l3 a1 a2 a3 (Z37_n n) n3)) (Z37_n n) z.1 z.2=some r) ?_ ?_
      ·intro K26 hK26;refine seqR (S Fv (S Ld (S BS (nil ?_))));refine cE hE (fun hc31 hE=>?_) (fun hc31 hE=>?_)
       ·refine seqR (S Fv (S Ld (S As (nil ?_))));refine AWp.seqD (Sd Mv (Sd NP ?_));refine DOps.s0 (fieldP (TK rfl) rfl rfl (TK rfl) rfl rfl) rfl ?_;refine DOps.s0 (loadP (TK rfl) rfl rfl hpG rfl) rfl ?_;refine Sd Fv (Sd Ld ?_);obtain⟨x34,gx34,hE⟩:=bO hE;refine Scd rfl rfl (Z76_walk gx34) ?_;refine Sd As ?_;refine DOps.nil (by decide +kernel) ?_;refine seqR (S Mv (S Mv (S NB (S Mv ?_))));obtain⟨x36,gx36,hE⟩:=bO hE
        refine sH (callH rfl rfl (Z35_walk gx36 _ hpG hpG)) rfl ?_;refine hq ((H.set c0_2 (some (.tok 2 x36.Fout.l.length))).set c0 (some (.cells (Z1.cg (some c0_2) x36)))) ?_;refine nil ?_;refine region ?_;refine S Mv (S Mv (S Mv (G0 Mv (G0 Mv (G0 Fv ?_)))));refine G1 134 rfl Ld ?_;obtain⟨x37,gx37,hE⟩:=gO hE;refine gC rfl rfl (fun hC=>ungdA (k:=132) rfl (ungdA (k:=133) rfl (ungdA (k:=135) rfl (callR rfl rfl (Z36_walk (gx37 hC) _ hpG))))) rfl ?_
        refine S PA (S Mv ?_);obtain⟨x38,gx38,hE⟩:=bO hE;refine sH (callH rfl rfl (Z35_walk gx38 _ hpG hpG)) rfl ?_;refine hq ((H.set c0_2 (some (.tok 2 x38.Fout.l.length))).set c0 (some (.cells (Z1.cg (some c0_2) x38)))) ?_;refine nil ?_;exact hK26 _ (x12.FOn,x38) Weak.toA hE
       refine AWp.skip ?_;exact hK26 _ (a2,y5_c0) Weak.toA hE
      rintro ⟨s12_27,y28_c0⟩ hE;try dsimp only at hE
      unfold Z37_j26 at hE;refine region ?_;refine S Mv (S Fv ?_);refine s0 (loadV (TK rfl) rfl rfl (congrArg (fun x=>some (A.d x)) (TSel.FSelsD_eq _))) rfl ?_;refine S Mv (S Mv ?_);obtain⟨x29,gx29,hE⟩:=bO hE;refine sH (callH rfl rfl (ih_22 gx29 _ hpG hpG)) rfl ?_;refine hq ((H.set c0_2 (some (.tok 2 x29.Fout.l.length))).set c0 (some (.cells (Z1.cg (some c0_2) x29)))) ?_;refine nil ?_;exact hK9 _ x29 Weak.toA hE
     refine seqR (S Fv (S Ld (S As (S As (nil ?_)))));refine seqJH (TA 0 (TA 2 (TA 3 (TA 9 (TA 15 (TA 20 (TA 21 (TA 22 KeepsT.nil)))))))) (fun(z:Bs)=>[(14,.a (.d (.str z)))]) (fun z=>((H.set c0_2 (some (.tok 2 y5_c0.Fout.l.length))).set c0 (some (.cells (Z1.cg (some c0_2) y5_c0))))) (fun z=>Z37_j40 a2 a3 s22_4 y5_c0 x12 ((Z37_l3 a1 a2 a3 (Z37_n n) n3)) (Z37_n n) z=some r) ?_ ?_
     ·intro K40 hK40;refine seqR (S Mv (S BS (nil ?_)));refine cE hE (fun hc57 hE=>?_) (fun hc57 hE=>?_)
      ·refine region ?_;refine S Fv (S Ld (S As (nil ?_)));exact hK40 _ x12.FName Weak.toA hE
      refine AWp.skip ?_;exact hK40 _ x12.FAlias Weak.toA hE
     rintro s14_41 hE;try dsimp only at hE
     unfold Z37_j40 at hE;refine seqJH (TA 0 (TA 2 (TA 3 (TA 9 (TA 14 (TA 20 (TA 21 (TA 22 KeepsT.nil)))))))) (fun(z:Bs)=>[(15,.a (.d (.str z)))]) (fun z=>((H.set c0_2 (some (.tok 2 y5_c0.Fout.l.length))).set c0 (some (.cells (Z1.cg (some c0_2) y5_c0))))) (fun z=>Z37_j42 a3 s22_4 y5_c0 x12 s14_41 ((Z37_l3 a1 a2 a3 (Z37_n n) n3)) (Z37_n n) z=some r) ?_ ?_
     ·intro K42 hK42;refine seqR (S Mv (S NP ?_));refine s0 (fieldP (TK rfl) rfl rfl (TK rfl) rfl rfl) rfl ?_;refine s0 (loadP (TK rfl) rfl rfl hpG rfl) rfl ?_;refine S Mv ?_;obtain⟨x48,gx48,hE⟩:=bO hE;refine Sc rfl rfl (Z78_walk gx48) ?_;refine S Mv (S EX (S EX ?_));refine Sl ?_;refine Sf ?_;refine S As (nil ?_);refine freezeA 16 _ rfl (KA 0 (KA 2 (KA 3 (KA 9 (KA 14 (KA 15 (KA 17 (KA 20 (KA 21 (KA 22 Keeps.nil)))))))))) ?_
      refine seqR (S Mv (S Mv (G0 Mv ?_)));refine G1 45 rfl NP ?_;refine gC rfl rfl (fun hC=>ungdA (k:=46) rfl (fieldP (TK rfl) rfl rfl (TK rfl) rfl rfl)) rfl ?_;refine gC rfl rfl (fun hC=>ungdA (k:=47) rfl (loadP (TK rfl) rfl rfl hpG rfl)) rfl ?_;refine G0 Mv ?_;obtain⟨x50,gx50,hE⟩:=gO hE;refine Gc2 48 49 rfl rfl rfl rfl rfl rfl (fun hC=>Z76_walk (gx50 hC)) ?_;refine S PA (nil ?_);refine cE hE (fun hc51 hE=>?_) (fun hc51 hE=>?_)
      ·refine seqR (S Ld (S Fv (S Ld ?_)));obtain⟨x53,gx53,hE⟩:=bO hE;refine Sc rfl rfl (Z77_walk gx53) ?_;refine S Mv (S EX (S EX ?_));refine Sl ?_;refine Sf ?_;refine S As (nil ?_);refine freezeA 18 _ rfl (KA 0 (KA 2 (KA 3 (KA 9 (KA 14 (KA 15 (KA 19 (KA 20 (KA 21 (KA 22 Keeps.nil)))))))))) ?_;refine seqR (S Mv (nil ?_));refine cE hE (fun hc55 hE=>?_) (fun hc55 hE=>?_)
       ·refine region ?_;refine S Fv (S Fv (S Ld (S As (nil ?_))));exact hK42 _ x53.1.FType.FName Weak.toA hE
       refine AWp.skip ?_;exact hK42 _ ([]:Bs) Weak.toA hE
      refine AWp.skip ?_;exact hK42 _ ([]:Bs) Weak.toA hE
     rintro s15_43 hE;try dsimp only at hE
     unfold Z37_j42 at hE;refine region ?_;refine S Mv (S Fv ?_);refine s0 (loadV (TK rfl) rfl rfl (congrArg (fun x=>some (A.d x)) (TSel.FSelsD_eq _))) rfl ?_;refine S Mv (S Mv ?_);obtain⟨x44,gx44,hE⟩:=bO hE;refine s0 (catM rfl rfl gx44) rfl ?_;refine S Mv ?_;obtain⟨x45,gx45,hE⟩:=bO hE;refine s0 (catM rfl rfl gx45) rfl ?_;obtain⟨x46,gx46,hE⟩:=bO hE;refine sH (callH rfl rfl (ih_22 gx46 _ hpG hpG)) rfl ?_
     refine hq ((H.set c0_2 (some (.tok 2 x46.Fout.l.length))).set c0 (some (.cells (Z1.cg (some c0_2) x46)))) ?_;refine nil ?_;exact hK9 _ x46 Weak.toA hE
    rintro y10_c0 hE;try dsimp only at hE
    unfold Z37_j9 at hE;refine region ?_;refine SI ?_;refine S Mv (nil ?_);exact hK3 _ (n3,(s22_4+1),y10_c0) Weak.toA hE (Nat.lt_succ_self _)
   refine AWp.exit ?_;repeat (first|refine xBlock_normal ?_|refine xThen_exit ?_|refine xBlock_exit ?_)
   obtain rfl:=Option.some.inj hE;refine retQ.normalF ((H.set c0_2 (some (.tok 2 y5_c0.Fout.l.length))).set c0 (some (.cells (Z1.cg (some c0_2) y5_c0)))) (xs:=[]) rfl ⟨rfl,rfl⟩ ?_;exact(fun _ _ h=>h)
theorem Z37_all:∀(n:Nat),(∀{a0:Z1}{a1:Sl TSel}{a2 a3:Bs}{w1:Option Nat}{c0 c0_2:Nat}{r:Z1},Z37_n n a0 a1 a2 a3=some r->∀(H:Heap) (hc0:H c0=some (.cells (Z1.cg (some c0_2) a0))) (ht0_2:H c0_2=some (.tok 2 a0.Fout.l.length)),ACalls Tryz.prog 22 [.d (.ptr c0 0),.d (Sl.d 7 TSel.c w1 a1),.d (.str a2),.d (.str a3)] H fun v h'=>v=.tup []/\h'=((H.set c0_2 (some (.tok 2 r.Fout.l.length))).set c0 (some (.cells (Z1.cg (some c0_2) r)))))
 | 0=>fun hE=>by first|cases hE|(rw [Z37_n] at hE; cases hE)
 | n+1=>Z37_step n (Z37_all n)
def Z37 (a0:Z1) (a1:(Sl TSel)) (a2:Bs) (a3:Bs):Option Z1:=Z37_n F0 a0 a1 a2 a3
theorem Z37_walk {a0:Z1}{a1:Sl TSel}{a2 a3:Bs}{w1:Option Nat}{c0 c0_2:Nat}{r:Z1}(hE:Z37 a0 a1 a2 a3=some r) (H:Heap) (hc0:H c0=some (.cells (Z1.cg (some c0_2) a0))) (ht0_2:H c0_2=some (.tok 2 a0.Fout.l.length)):ACalls Tryz.prog 22 [.d (.ptr c0 0),.d (Sl.d 7 TSel.c w1 a1),.d (.str a2),.d (.str a3)] H fun v h'=>v=.tup []/\h'=((H.set c0_2 (some (.tok 2 r.Fout.l.length))).set c0 (some (.cells (Z1.cg (some c0_2) r)))):=(Z37_all F0) hE H hc0 ht0_2
end Go.Proofs

namespace Go.Proofs
open Go Go.Ab
open AOps Cert AWp Keeps KeepsT
variable {lou:Lou}
def Z39_j3  (s2_4:(Sl Bs)) (s8_5:Bool):Option ((Sl Bs)×Bool):=some (s2_4,s8_5)
def Z39_j16 (s17_12:Nat) (k_next_9:(Sl Bs)->Bool->Nat->Option ((Sl Bs)×Bool)) (s2_17:(Sl Bs)) (s8_18:Bool):Option ((Sl Bs)×Bool):=k_next_9 s2_17 s8_18 (s17_12+1)
def Z39_j22 (a0:Z8) (s17_12:Nat) (k_next_9:(Sl Bs)->Bool->Nat->Option ((Sl Bs)×Bool)) (k_rec_23:Z8->(Sl TSel)->(Sl Bs)->Option ((Sl Bs)×Bool)) (s2_23:(Sl Bs)) (s8_24:Bool) (s11_25:(Sl TSel)):Option ((Sl Bs)×Bool):=(k_rec_23 a0 s11_25 s2_23).bind fun x28=>Z39_j16 s17_12 k_next_9 x28.1 (s8_24&&x28.2)
def Z39_l9 (a0:Z8) (a1:(Sl TSel)) (k_rec_23:Z8->(Sl TSel)->(Sl Bs)->Option ((Sl Bs)×Bool)):Nat->(Sl Bs)->Bool->Nat->Option ((Sl Bs)×Bool)
 | 0,_,_,_=>none
 | n9+1,s2_10,s8_11,s17_12=>bif (decide (((s17_12:Nat):Int)<((a1.l.length:Nat):Int))) then((a1.l[s17_12]?).bind fun x20=>bif (decide (x20.FKind=(2:Int))) then((Z33 a0 x20.FName).bind fun x32=>guardO (!(!x32.2)) (Z102 s2_10 x20.FName) false fun x36=>bif ((!x32.2)||x36) then(Z39_j16 s17_12 ((Z39_l9 a0 a1 k_rec_23 n9)) s2_10 (s8_11&&x32.2)) else((appC 16 s2_10 (⟨false,[x20.FName]⟩:Sl Bs)).bind fun x39=>Z39_j22 a0 s17_12 ((Z39_l9 a0 a1 k_rec_23 n9)) k_rec_23 x39 (s8_11&&x32.2) x32.1.FSels)) else(Z39_j22 a0 s17_12 ((Z39_l9 a0 a1 k_rec_23 n9)) k_rec_23 s2_10 s8_11 x20.FSels)) else(Z39_j3   s2_10 s8_11)
def Z39_n:Nat->Z8->(Sl TSel)->(Sl Bs)->Option ((Sl Bs)×Bool)
 | 0,_,_,_=>none
 | n+1,a0,a1,a2=>Z39_l9 a0 a1 (Z39_n n) (a1.l.length+1) a2 true 0
theorem Z39_step (n:Nat) (ih_23:∀{a0:Z8}{a1:Sl TSel}{a2:Sl Bs}{w1:Option Nat}{g2:Nat}{r:((Sl Bs)×Bool)},Z39_n n a0 a1 a2=some r->∀(H:Heap) (hg2:H g2=some (.tok 1 a2.l.length)),ACalls Tryz.prog 23 [.agg (Z8.c a0),.d (Sl.d 7 TSel.c w1 a1),.d (Sl.d 1 strE (some g2) a2)] H fun v h'=>v=.tup [.d (Sl.d 1 strE (some g2) r.1),.d (.bool r.2)]/\h'=(H.set g2 (some (.tok 1 r.1.l.length)))):∀{a0:Z8}{a1:Sl TSel}{a2:Sl Bs}{w1:Option Nat}{g2:Nat}{r:((Sl Bs)×Bool)},Z39_n (n+1) a0 a1 a2=some r->∀(H:Heap) (hg2:H g2=some (.tok 1 a2.l.length)),ACalls Tryz.prog 23 [.agg (Z8.c a0),.d (Sl.d 7 TSel.c w1 a1),.d (Sl.d 1 strE (some g2) a2)] H fun v h'=>v=.tup [.d (Sl.d 1 strE (some g2) r.1),.d (.bool r.2)]/\h'=(H.set g2 (some (.tok 1 r.1.l.length))):=by
 intro a0 a1 a2 w1 g2 r hE H hg2;rw [Z39_n] at hE;refine ACalls.oW 66 [.tmp 6,.tmp 7] Tryz.call23 Tryz.func23 ?_;refine AWp.heqA (h':=(H.set g2 (some (.tok 1 a2.l.length)))) (by funext n_; simp only [Heap.set]; (repeat' split)<;>simp_all) ?_;refine seqR (S BX (S As (S As (nil ?_))));refine seqR (S As (nil ?_));refine seqJH KeepsT.nil (fun(z:(Sl Bs)×Bool)=>[(2,.a (.d (Sl.d 1 strE (some g2) z.1))),(8,.a (.d (.bool z.2)))]) (fun z=>(H.set g2 (some (.tok 1 z.1.l.length)))) (fun z=>Z39_j3 z.1 z.2=some r) ?_ ?_
 ·intro K3 hK3;refine seqR (S Mv ?_);refine sLen (f:=TSel.c) (s:=a1) (TK rfl) rfl rfl rfl rfl fun hL8=>?_;refine S Mv (nil ?_);refine block ?_;refine loopH (TA 3 (TA 15 (TA 16 KeepsT.nil))) (fun(z:Nat×(Sl Bs)×Bool×Nat)=>[(2,.a (.d (Sl.d 1 strE (some g2) z.2.1))),(8,.a (.d (.bool z.2.2.1))),(17,.a (.d (.int .i64 ((z.2.2.2:Nat):Int))))]) (fun z=>(H.set g2 (some (.tok 1 z.2.1.l.length)))) (fun z=>z.1) (fun z=>Z39_l9 a0 a1 (Z39_n n) z.1 z.2.1 z.2.2.1 z.2.2.2=some r) ((a1.l.length+1),a2,true,0) hE Weak.toA ?_
  rintro ⟨n9,s2_10,s8_11,s17_12⟩ hE K9 hK9;try dsimp only at hE
  cases n9 with
  | zero=>cases hE
  | succ n9 =>
    rw [Z39_l9] at hE;refine seqR (S BI (nil ?_));refine seqK fun K14 hK14=>?_;refine cE hE (fun hc15 hE=>?_) (fun hc15 hE=>?_)
    ·try dsimp only at hc15
     have hf15:=of_decide_eq_true hc15;refine sk hK14 ?_;clear hK14 K14;refine seqJH (TA 3 (TA 15 (TA 16 (TA 17 KeepsT.nil)))) (fun(z:(Sl Bs)×Bool)=>[(2,.a (.d (Sl.d 1 strE (some g2) z.1))),(8,.a (.d (.bool z.2)))]) (fun z=>(H.set g2 (some (.tok 1 z.1.l.length)))) (fun z=>Z39_j16 s17_12 ((Z39_l9 a0 a1 (Z39_n n) n9)) z.1 z.2=some r) ?_ ?_
     ·intro K16 hK16;refine block ?_;refine seqR ?_;obtain⟨x20,gx20,hE⟩:=bO hE;refine S (ix TSel.c s17_12 gx20) (S Ld ?_);refine Sl ?_;refine Sf ?_;refine nil ?_;refine freezeA 10 _ rfl (KA 2 (KA 3 (KA 8 (KA 15 (KA 16 (KA 17 Keeps.nil)))))) ?_;refine seqR (S Fv ?_);refine s0 (loadV (TK rfl) rfl rfl (congrArg (fun x=>some (A.d x)) (TSel.FSelsD_eq _))) rfl ?_;refine S As (nil ?_);refine seqJH (TA 3 (TA 15 (TA 16 (TA 17 KeepsT.nil)))) (fun(z:(Sl Bs)×Bool×(Sl TSel))=>[(2,.a (.d (Sl.d 1 strE (some g2) z.1))),(8,.a (.d (.bool z.2.1))),(11,.a (.d (Sl.d 7 TSel.c none z.2.2)))]) (fun z=>(H.set g2 (some (.tok 1 z.1.l.length)))) (fun z=>Z39_j22 a0 s17_12 ((Z39_l9 a0 a1 (Z39_n n) n9)) (Z39_n n) z.1 z.2.1 z.2.2=some r) ?_ ?_
      ·intro K22 hK22;refine seqR (S Fv (S Ld (S BI (nil ?_))));refine cE hE (fun hc30 hE=>?_) (fun hc30 hE=>?_)
       ·refine seqR (S Ld (S Fv (S Ld ?_)));obtain⟨x32,gx32,hE⟩:=bO hE;refine Sc rfl rfl (Z33_walk gx32) ?_;refine S Mv (S EX (S EX ?_));refine Sl ?_;refine Sf ?_;refine S As (nil ?_);refine freezeA 12 _ rfl (KA 2 (KA 3 (KA 8 (KA 10 (KA 13 (KA 15 (KA 16 (KA 17 Keeps.nil)))))))) ?_;refine seqR (S Mv (S Mv (G0 Mv (S PA (S As (nil ?_))))));refine seqK fun K34 hK34=>?_;refine seqR (S Mv (S NB (S Mv (G0 Mv (G0 Fv ?_)))))
        refine G1 41 rfl Ld ?_;obtain⟨x36,gx36,hE⟩:=gO hE;refine Gc2 40 42 rfl rfl rfl rfl rfl rfl (fun hC=>Z102_walk (gx36 hC)) ?_;refine S PO (nil ?_);refine cE hE (fun hc37 hE=>?_) (fun hc37 hE=>?_)
        ·refine AWp.exit ?_;exact hK16 _ (s2_10,(s8_11&&x32.2)) Weak.toA hE
        refine sk hK34 ?_;clear hK34 K34;refine seqR (S Mv (S Fv (S Ld (S BV ?_))));obtain⟨x39,gx39,hE⟩:=bO hE;refine SH (am strE (TK rfl) rfl (TK rfl) (TK rfl) gx39) ?_;refine hq (H.set g2 (some (.tok 1 x39.l.length))) ?_;refine S As (nil ?_);refine region ?_;refine S Fv (S Ld (S As (nil ?_)));exact hK22 _ (x39,(s8_11&&x32.2),x32.1.FSels) Weak.toA hE
       refine AWp.skip ?_;exact hK22 _ (s2_10,s8_11,x20.FSels) Weak.toA hE
      rintro ⟨s2_23,s8_24,s11_25⟩ hE;try dsimp only at hE
      unfold Z39_j22 at hE;refine seqR (S As (nil ?_));refine seqR (S Ld (S Mv (S Mv ?_)));obtain⟨x28,gx28,hE⟩:=bO hE;refine sH (callH rfl rfl (ih_23 gx28 _ hpG)) rfl ?_;refine hq (H.set g2 (some (.tok 1 x28.1.l.length))) ?_;refine S Mv (S EX (S EX (S As (S As (nil ?_)))));refine region ?_;refine S Mv (S Mv (G0 Mv (S PA (S As (nil ?_)))));exact hK16 _ (x28.1,(s8_24&&x28.2)) Weak.toA hE
     rintro ⟨s2_17,s8_18⟩ hE;try dsimp only at hE
     unfold Z39_j16 at hE;refine region ?_;refine SI ?_;refine S Mv (nil ?_);exact hK9 _ (n9,s2_17,s8_18,(s17_12+1)) Weak.toA hE (Nat.lt_succ_self _)
    refine AWp.exit ?_;exact hK3 _ (s2_10,s8_11) Weak.toA hE
 rintro ⟨s2_4,s8_5⟩ hE;try dsimp only at hE
 unfold Z39_j3 at hE;refine seqR (S Mv (S Mv (S As (S As (nil ?_)))));exact rt hE
theorem Z39_all:∀(n:Nat),(∀{a0:Z8}{a1:Sl TSel}{a2:Sl Bs}{w1:Option Nat}{g2:Nat}{r:((Sl Bs)×Bool)},Z39_n n a0 a1 a2=some r->∀(H:Heap) (hg2:H g2=some (.tok 1 a2.l.length)),ACalls Tryz.prog 23 [.agg (Z8.c a0),.d (Sl.d 7 TSel.c w1 a1),.d (Sl.d 1 strE (some g2) a2)] H fun v h'=>v=.tup [.d (Sl.d 1 strE (some g2) r.1),.d (.bool r.2)]/\h'=(H.set g2 (some (.tok 1 r.1.l.length))))
 | 0=>fun hE=>by first|cases hE|(rw [Z39_n] at hE; cases hE)
 | n+1=>Z39_step n (Z39_all n)
def Z39 (a0:Z8) (a1:(Sl TSel)) (a2:(Sl Bs)):Option ((Sl Bs)×Bool):=Z39_n F0 a0 a1 a2
theorem Z39_walk {a0:Z8}{a1:Sl TSel}{a2:Sl Bs}{w1:Option Nat}{g2:Nat}{r:((Sl Bs)×Bool)}(hE:Z39 a0 a1 a2=some r) (H:Heap) (hg2:H g2=some (.tok 1 a2.l.length)):ACalls Tryz.prog 23 [.agg (Z8.c a0),.d (Sl.d 7 TSel.c w1 a1),.d (Sl.d 1 strE (some g2) a2)] H fun v h'=>v=.tup [.d (Sl.d 1 strE (some g2) r.1),.d (.bool r.2)]/\h'=(H.set g2 (some (.tok 1 r.1.l.length))):=(Z39_all F0) hE H hg2
def Z38 (a0:Z8) (a1:Z5):Option Bool:=(Z39 a0 a1.FSels (Sl.nil:Sl Bs)).bind fun x4=>(Z102 x4.1 a1.FName).bind fun x6=>some x6
theorem Z38_walk {a0:Z8}{a1:Z5}{r:Bool}(hE:Z38 a0 a1=some r) (H:Heap) :ACalls Tryz.prog 26 [.agg (Z8.c a0),.agg (Z5.c a1)] H fun v h'=>v=.a (.d (.bool r))/\h'=H:=by
 unfold Z38 at hE;refine ACalls.oW 18 [.tmp 4] Tryz.call26 Tryz.func26 ?_;refine seqR (S BX (S BX (S As (nil ?_))));refine AWp.tok 1 fun tk2_3 htk2_3=>?_;refine seqR (S Ld (S Fv (S Ld ?_)));obtain⟨x4,gx4,hE⟩:=bO hE;refine sH (callH rfl rfl (ACalls.asArgs (.cons (.refl _) (.cons (.refl _) (.cons (AsArg.nil (k':=1) (t:=tk2_3) hpG) .nil))) (Z39_walk gx4 _ hpG))) rfl ?_;refine hq (H.set tk2_3 (some (.tok 1 x4.1.l.length))) ?_
 refine S Mv (S EX (S EX (S As (S As (nil ?_)))));refine AWp.dropTok 5 rfl ?_;refine seqR (S Mv (S Fv (S Ld ?_)));obtain⟨x6,gx6,hE⟩:=bO hE;refine Sc rfl rfl (Z102_walk gx6) ?_;refine S As (nil ?_);refine AWp.ret ?_;repeat (first|refine xBlock_ret ?_|refine xThen_ret ?_)
 obtain rfl:=Option.some.inj hE;refine retQ.retF H rfl ⟨rfl,rfl⟩ ?_
 first|exact Heap.sub_set htk2_3|(simp only [Heap.set_set]; exact Heap.sub_set htk2_3)
def Z32_j10  (y11_id18_3:Z1):Option (Sl Z3):=some y11_id18_3.Fout
def Z32_l15 (a0:TDoc) (a1:Z8) (y9_id19_6:(List Bs)) :Nat->Nat->Z1->Option (Sl Z3)
 | 0,_,_=>none
 | n15+1,s56_16,y17_id18_3=>bif (decide (((s56_16:Nat):Int)<((a1.FFrags.l.length:Nat):Int))) then((a1.FFrags.l[s56_16]?).bind fun x23=>(Z76 a0 x23.FOn).bind fun x25=>(Z35 y17_id18_3 (!x25) (24:Int) x23.FName).bind fun x26=>(Z38 a1 x23).bind fun x28=>(Z35 x26 x28 (24:Int) x23.FName).bind fun x29=>(Z35 x29 (!(y9_id19_6.contains x23.FName)) (26:Int) x23.FName).bind fun x31=>(Z37 x31 x23.FSels x23.FOn x23.FName).bind fun x32=>(Z32_l15 a0 a1 y9_id19_6 n15) (s56_16+1) x32) else(Z32_j10   y17_id18_3)
def Z32_j7 (a0:TDoc) (a1:Z8)  (y8_id18_3:Z1) (y9_id19_6:(List Bs)):Option (Sl Z3):=Z32_l15 a0 a1 y9_id19_6 (a1.FFrags.l.length+1) 0 y8_id18_3
def Z32_j42 (s23_36:Nat) (k_next_35:Nat->Z1->(List Bs)->Option (Sl Z3)) (y43_id18_3:Z1) (y44_id19_6:(List Bs)):Option (Sl Z3):=k_next_35 (s23_36+1) y43_id18_3 y44_id19_6
def Z32_l55 (s23_36:Nat) (x49:Z1) (x52:((Sl Bs)×Bool)) (k_next_35:Nat->Z1->(List Bs)->Option (Sl Z3)):Nat->Nat->(List Bs)->Option (Sl Z3)
 | 0,_,_=>none
 | n55+1,s45_56,y57_id19_6=>bif (decide (((s45_56:Nat):Int)<((x52.1.l.length:Nat):Int))) then((x52.1.l[s45_56]?).bind fun x63=>(Z32_l55 s23_36 x49 x52 k_next_35 n55) (s45_56+1) (insS y57_id19_6 x63)) else(Z32_j42 s23_36 k_next_35 x49 y57_id19_6)
def Z32_l35 (a0:TDoc) (a1:Z8) :Nat->Nat->Z1->(List Bs)->Option (Sl Z3)
 | 0,_,_,_=>none
 | n35+1,s23_36,y37_id18_3,y38_id19_6=>bif (decide (((s23_36:Nat):Int)<((a1.FOps.l.length:Nat):Int))) then((a1.FOps.l[s23_36]?).bind fun x46=>(Z82 x46.FKind).bind fun x48=>(Z37 y37_id18_3 x46.FSels x48 x46.FName).bind fun x49=>(Z39 a1 x46.FSels (Sl.nil:Sl Bs)).bind fun x52=>Z32_l55 s23_36 x49 x52 ((Z32_l35 a0 a1 n35)) (x52.1.l.length+1) 0 y38_id19_6) else(Z32_j7 a0 a1  y37_id18_3 y38_id19_6)
def Z32 (a0:TDoc) (a1:Z8):Option (Sl Z3):=Z32_l35 a0 a1 (a1.FOps.l.length+1) 0 (Z1.mk a0 a1 (Sl.nil:Sl Z3)) ([]:List Bs)
theorem Z32_walk {a0:TDoc}{a1:Z8}{r:Sl Z3}(hE:Z32 a0 a1=some r) (H:Heap) :ACalls Tryz.prog 6 [.agg (TDoc.c a0),.agg (Z8.c a1)] H fun v h'=>v=.a (.d (Sl.d 2 Z3.c none r))/\h'=H:=by
 unfold Z32 at hE;refine ACalls.oW 98 [.tmp 4] Tryz.call6 Tryz.func6 ?_;refine seqR (S BX (S BX ?_));refine s0 (assignNil (k':=2) rfl) rfl ?_;refine nil ?_;refine seqR (S Ld (S Ld (S BU ?_)));refine AOps.tok 2 fun tk18_4 htk18_4=>?_;refine sE (StepE.boxO rfl) rfl (fun _ _ _ ⟨id18_3,hid18_3,e1,e2,e3⟩=>?_); subst e1 e2 e3;obtain⟨ne_id18_3_tk18_4,hid18_3⟩:=Heap.set_fresh hid18_3;refine AOps.recell id18_3 _ hpG (fun j w cs hh hx=>tok_cell 3 2 2 hh (t:=tk18_4) hpG hx rfl) ?_
 refine hq ((H.set tk18_4 (some (.tok 2 0))).set id18_3 (some (.cells (Z1.cg (some tk18_4) (Z1.mk a0 a1 (Sl.nil:Sl Z3)))))) ?_;refine S As (nil ?_);refine seqR ?_;refine sE StepE.makeMap rfl (fun _ _ _ ⟨id19_6,hid19_6,e1,e2,e3⟩=>?_); subst e1 e2 e3;obtain⟨ne_id19_6_id18_3,hid19_6⟩:=Heap.set_fresh hid19_6;obtain⟨ne_id19_6_tk18_4,hid19_6⟩:=Heap.set_fresh hid19_6;refine hq (((H.set tk18_4 (some (.tok 2 0))).set id18_3 (some (.cells (Z1.cg (some tk18_4) (Z1.mk a0 a1 (Sl.nil:Sl Z3)))))).set id19_6 (some (.map (seenM ([]:List Bs))))) ?_
 refine S As (nil ?_);refine seqJH (TA 2 (TA 3 (TA 5 (TA 6 KeepsT.nil)))) (fun(z:Z1×(List Bs))=>[]) (fun z=>(((H.set tk18_4 (some (.tok 2 z.1.Fout.l.length))).set id18_3 (some (.cells (Z1.cg (some tk18_4) z.1)))).set id19_6 (some (.map (seenM z.2))))) (fun z=>Z32_j7 a0 a1 z.1 z.2=some r) ?_ ?_
 ·intro K7 hK7;refine seqR (S Fv (S Ld ?_));refine sLen (f:=TOp.c) (s:=a1.FOps) (TK rfl) rfl rfl rfl rfl fun hL34=>?_;refine S Mv (nil ?_);refine block ?_;refine loopH (TA 2 (TA 3 (TA 5 (TA 6 (TA 21 (TA 22 KeepsT.nil)))))) (fun(z:Nat×Nat×Z1×(List Bs))=>[(23,.a (.d (.int .i64 ((z.2.1:Nat):Int))))]) (fun z=>(((H.set tk18_4 (some (.tok 2 z.2.2.1.Fout.l.length))).set id18_3 (some (.cells (Z1.cg (some tk18_4) z.2.2.1)))).set id19_6 (some (.map (seenM z.2.2.2))))) (fun z=>z.1) (fun z=>Z32_l35 a0 a1 z.1 z.2.1 z.2.2.1 z.2.2.2=some r) ((a1.FOps.l.length+1),0,(Z1.mk a0 a1 (Sl.nil:Sl Z3)),([]:List Bs)) hE Weak.toA ?_
  rintro ⟨n35,s23_36,y37_id18_3,y38_id19_6⟩ hE K35 hK35;try dsimp only at hE
  cases n35 with
  | zero=>cases hE
  | succ n35 =>
    rw [Z32_l35] at hE;refine seqR (S BI (nil ?_));refine seqK fun K40 hK40=>?_;refine cE hE (fun hc41 hE=>?_) (fun hc41 hE=>?_)
    ·try dsimp only at hc41
     have hf41:=of_decide_eq_true hc41;refine sk hK40 ?_;clear hK40 K40;refine seqJH (TA 2 (TA 3 (TA 5 (TA 6 (TA 21 (TA 22 (TA 23 KeepsT.nil))))))) (fun(z:Z1×(List Bs))=>[]) (fun z=>(((H.set tk18_4 (some (.tok 2 z.1.Fout.l.length))).set id18_3 (some (.cells (Z1.cg (some tk18_4) z.1)))).set id19_6 (some (.map (seenM z.2))))) (fun z=>Z32_j42 s23_36 ((Z32_l35 a0 a1 n35)) z.1 z.2=some r) ?_ ?_
     ·intro K42 hK42;refine block ?_;refine seqR ?_;obtain⟨x46,gx46,hE⟩:=bO hE;refine S (ix TOp.c s23_36 gx46) (S Ld ?_);refine Sl ?_;refine Sf ?_;refine nil ?_;refine freezeA 8 _ rfl (KA 2 (KA 3 (KA 5 (KA 6 (KA 21 (KA 22 (KA 23 Keeps.nil))))))) ?_;refine AWp.seqD (Sd Mv (Sd Fv (Sd Ld (Sd Fv (Sd Ld ?_)))));obtain⟨x48,gx48,hE⟩:=bO hE;refine Scd rfl rfl (Z82_walk gx48) ?_;refine Sd Fv (Sd Ld ?_);obtain⟨x49,gx49,hE⟩:=bO hE
      refine DOps.sH (callH rfl rfl (Z37_walk gx49 _ hpG hpG)) rfl ?_;refine DOps.Dh (((H.set tk18_4 (some (.tok 2 x49.Fout.l.length))).set id18_3 (some (.cells (Z1.cg (some tk18_4) x49)))).set id19_6 (some (.map (seenM y38_id19_6)))) ?_;refine DOps.nil (by decide +kernel) ?_;refine AWp.tok 1 fun tk2_51 htk2_51=>?_;obtain⟨ne_tk2_51_id19_6,htk2_51⟩:=Heap.set_fresh htk2_51;obtain⟨ne_tk2_51_id18_3,htk2_51⟩:=Heap.set_fresh htk2_51
      obtain⟨ne_tk2_51_tk18_4,htk2_51⟩:=Heap.set_fresh htk2_51;refine seqR (S Ld (S Fv (S Ld ?_)));obtain⟨x52,gx52,hE⟩:=bO hE;refine sH (callH rfl rfl (ACalls.asArgs (.cons (.refl _) (.cons (.refl _) (.cons (AsArg.nil (k':=1) (t:=tk2_51) hpG) .nil))) (Z39_walk gx52 _ hpG))) rfl ?_;refine hq ((((H.set tk18_4 (some (.tok 2 x49.Fout.l.length))).set id18_3 (some (.cells (Z1.cg (some tk18_4) x49)))).set id19_6 (some (.map (seenM y38_id19_6)))).set tk2_51 (some (.tok 1 x52.1.l.length))) ?_
      refine S Mv (S EX (S EX (S As (S As (nil ?_)))));refine AWp.dropTok 9 rfl ?_;refine seqR (S Mv ?_);refine sLen (f:=strE) (s:=x52.1) (TK rfl) rfl rfl rfl rfl fun hL54=>?_;refine S Mv (nil ?_);refine block ?_;refine loopH (TA 2 (TA 3 (TA 5 (TA 6 (TA 21 (TA 22 (TA 23 (TA 43 (TA 44 KeepsT.nil))))))))) (fun(z:Nat×Nat×(List Bs))=>[(45,.a (.d (.int .i64 ((z.2.1:Nat):Int))))]) (fun z=>((((H.set tk18_4 (some (.tok 2 x49.Fout.l.length))).set id18_3 (some (.cells (Z1.cg (some tk18_4) x49)))).set id19_6 (some (.map (seenM z.2.2)))).set tk2_51 (some (.tok 1 x52.1.l.length)))) (fun z=>z.1) (fun z=>Z32_l55 s23_36 x49 x52 ((Z32_l35 a0 a1 n35)) z.1 z.2.1 z.2.2=some r) ((x52.1.l.length+1),0,y38_id19_6) hE Weak.toA ?_
      rintro ⟨n55,s45_56,y57_id19_6⟩ hE K55 hK55;try dsimp only at hE
      cases n55 with
      | zero=>cases hE
      | succ n55 =>
        rw [Z32_l55] at hE;refine seqR (S BI (nil ?_));refine seqK fun K59 hK59=>?_;refine cE hE (fun hc60 hE=>?_) (fun hc60 hE=>?_)
        ·try dsimp only at hc60
         have hf60:=of_decide_eq_true hc60;refine sk hK59 ?_;clear hK59 K59;refine seqK fun K61 hK61=>?_;refine block ?_;refine seqR ?_;obtain⟨x63,gx63,hE⟩:=bO hE;refine S (ix strE s45_56 gx63) (S Ld (S As (nil ?_)));refine region ?_;refine S Mv (S Mv ?_);refine sHn (mapUpdate (TK rfl) rfl (TK rfl) rfl rfl rfl rfl hpG (seen_upd _ _) rfl) rfl rfl ?_;refine hq ((((H.set tk18_4 (some (.tok 2 x49.Fout.l.length))).set id18_3 (some (.cells (Z1.cg (some tk18_4) x49)))).set id19_6 (some (.map (seenM (insS y57_id19_6 x63))))).set tk2_51 (some (.tok 1 x52.1.l.length))) ?_
         refine nil ?_;refine hK61 _ ?_;clear hK61 K61;refine region ?_;refine SI ?_;refine S Mv (nil ?_);exact hK55 _ (n55,(s45_56+1),(insS y57_id19_6 x63)) Weak.toA hE (Nat.lt_succ_self _)
        refine AWp.exit ?_;exact hK42 _ (x49,y57_id19_6) (Weak.toFA (by(intro id_ o_ he_); (have e_tk2_51:id_≠tk2_51:=fun e_=>by rw [e_] at he_; simp [Heap.set,htk2_51,ne_tk2_51_tk18_4,ne_tk2_51_id18_3,ne_tk2_51_id19_6] at he_); (rw [<- he_]); (simp only [Heap.set,if_neg e_tk2_51]); (first|done|rfl))) hE
     rintro ⟨y43_id18_3,y44_id19_6⟩ hE;try dsimp only at hE
     unfold Z32_j42 at hE;refine region ?_;refine SI ?_;refine S Mv (nil ?_);exact hK35 _ (n35,(s23_36+1),y43_id18_3,y44_id19_6) Weak.toA hE (Nat.lt_succ_self _)
    refine AWp.exit ?_;exact hK7 _ (y37_id18_3,y38_id19_6) Weak.toA hE
 rintro ⟨y8_id18_3,y9_id19_6⟩ hE;try dsimp only at hE
 unfold Z32_j7 at hE;refine seqJH (TA 5 KeepsT.nil) (fun(z:Z1)=>[]) (fun z=>(((H.set tk18_4 (some (.tok 2 z.Fout.l.length))).set id18_3 (some (.cells (Z1.cg (some tk18_4) z)))).set id19_6 (some (.map (seenM y9_id19_6))))) (fun z=>Z32_j10 z=some r) ?_ ?_
 ·intro K10 hK10;refine seqR (S Fv (S Ld ?_));refine sLen (f:=Z5.c) (s:=a1.FFrags) (TK rfl) rfl rfl rfl rfl fun hL14=>?_;refine S Mv (nil ?_);refine block ?_;refine loopH (TA 2 (TA 3 (TA 5 (TA 6 (TA 54 (TA 55 KeepsT.nil)))))) (fun(z:Nat×Nat×Z1)=>[(56,.a (.d (.int .i64 ((z.2.1:Nat):Int))))]) (fun z=>(((H.set tk18_4 (some (.tok 2 z.2.2.Fout.l.length))).set id18_3 (some (.cells (Z1.cg (some tk18_4) z.2.2)))).set id19_6 (some (.map (seenM y9_id19_6))))) (fun z=>z.1) (fun z=>Z32_l15 a0 a1 y9_id19_6 z.1 z.2.1 z.2.2=some r) ((a1.FFrags.l.length+1),0,y8_id18_3) hE Weak.toA ?_
  rintro ⟨n15,s56_16,y17_id18_3⟩ hE K15 hK15;try dsimp only at hE
  cases n15 with
  | zero=>cases hE
  | succ n15 =>
    rw [Z32_l15] at hE;refine seqR (S BI (nil ?_));refine seqK fun K19 hK19=>?_;refine cE hE (fun hc20 hE=>?_) (fun hc20 hE=>?_)
    ·try dsimp only at hc20
     have hf20:=of_decide_eq_true hc20;refine sk hK19 ?_;clear hK19 K19;refine seqK fun K21 hK21=>?_;refine block ?_;refine seqR ?_;obtain⟨x23,gx23,hE⟩:=bO hE;refine S (ix Z5.c s56_16 gx23) (S Ld ?_);refine Sl ?_;refine Sf ?_;refine nil ?_;refine freezeA 14 _ rfl (KA 2 (KA 3 (KA 5 (KA 6 (KA 54 (KA 55 (KA 56 Keeps.nil))))))) ?_;refine AWp.seqD (Sd Mv (Sd Ld (Sd Fv (Sd Ld ?_))));obtain⟨x25,gx25,hE⟩:=bO hE
     refine Scd rfl rfl (Z76_walk gx25) ?_;refine Sd NB (Sd Fv (Sd Ld ?_));obtain⟨x26,gx26,hE⟩:=bO hE;refine DOps.sH (callH rfl rfl (Z35_walk gx26 _ hpG hpG)) rfl ?_;refine DOps.Dh (((H.set tk18_4 (some (.tok 2 x26.Fout.l.length))).set id18_3 (some (.cells (Z1.cg (some tk18_4) x26)))).set id19_6 (some (.map (seenM y9_id19_6)))) ?_;refine DOps.nil (by decide +kernel) ?_;refine AWp.seqD (Sd Mv (Sd Ld (Sd Ld ?_)))
     obtain⟨x28,gx28,hE⟩:=bO hE;refine Scd rfl rfl (Z38_walk gx28) ?_;refine Sd Fv (Sd Ld ?_);obtain⟨x29,gx29,hE⟩:=bO hE;refine DOps.sH (callH rfl rfl (Z35_walk gx29 _ hpG hpG)) rfl ?_;refine DOps.Dh (((H.set tk18_4 (some (.tok 2 x29.Fout.l.length))).set id18_3 (some (.cells (Z1.cg (some tk18_4) x29)))).set id19_6 (some (.map (seenM y9_id19_6)))) ?_;refine DOps.nil (by decide +kernel) ?_;refine seqR (S Mv (S Mv (S Fv (S Ld ?_))))
     refine s0 (lookupSeen (TK rfl) rfl (TK rfl) (TK rfl) rfl rfl rfl rfl hpG) rfl ?_;refine S NB (S Fv (S Ld ?_));obtain⟨x31,gx31,hE⟩:=bO hE;refine sH (callH rfl rfl (Z35_walk gx31 _ hpG hpG)) rfl ?_;refine hq (((H.set tk18_4 (some (.tok 2 x31.Fout.l.length))).set id18_3 (some (.cells (Z1.cg (some tk18_4) x31)))).set id19_6 (some (.map (seenM y9_id19_6)))) ?_;refine nil ?_;refine region ?_;refine S Mv (S Fv (S Ld (S Fv (S Ld (S Fv (S Ld ?_))))))
     obtain⟨x32,gx32,hE⟩:=bO hE;refine sH (callH rfl rfl (Z37_walk gx32 _ hpG hpG)) rfl ?_;refine hq (((H.set tk18_4 (some (.tok 2 x32.Fout.l.length))).set id18_3 (some (.cells (Z1.cg (some tk18_4) x32)))).set id19_6 (some (.map (seenM y9_id19_6)))) ?_;refine nil ?_;refine hK21 _ ?_;clear hK21 K21;refine region ?_;refine SI ?_;refine S Mv (nil ?_);exact hK15 _ (n15,(s56_16+1),x32) Weak.toA hE (Nat.lt_succ_self _)
    refine AWp.exit ?_;exact hK10 _ y17_id18_3 Weak.toA hE
 rintro y11_id18_3 hE;try dsimp only at hE
 unfold Z32_j10 at hE;refine seqR (S Mv (S NP ?_));refine s0 (fieldP (TK rfl) rfl rfl (TK rfl) rfl rfl) rfl ?_;refine s0 (loadP (TK rfl) rfl rfl hpG rfl) rfl ?_;refine S As (nil ?_);refine AWp.dropTok 4 rfl ?_;refine AWp.ret ?_;repeat (first|refine xBlock_ret ?_|refine xThen_ret ?_)
 obtain rfl:=Option.some.inj hE;refine retQ.retF H rfl ⟨rfl,rfl⟩ ?_;intro id_ o_ he_;have e_tk18_4:id_≠tk18_4:=fun e_=>by subst e_; simp_all [Heap.set]
 have e_id18_3:id_≠id18_3:=fun e_=>by subst e_; simp_all [Heap.set]
 have e_id19_6:id_≠id19_6:=fun e_=>by subst e_; simp_all [Heap.set]
 rw [<- he_];simp only [Heap.set] at he_ ⊢
 (repeat' split)<;>simp_all
def Z26_j10 (s14_4:Nat) (k_next_3:Nat->(List Bs)->(List Bs)->Option ((List Bs)×(List Bs))) (y11_c2:(List Bs)) (y12_c3:(List Bs)):Option ((List Bs)×(List Bs)):=k_next_3 (s14_4+1) y11_c2 y12_c3
def Z26_j30 (s45_24:Nat) (k_next_23:Nat->(List Bs)->(List Bs)->Option ((List Bs)×(List Bs))) (y31_c2:(List Bs)) (y32_c3:(List Bs)):Option ((List Bs)×(List Bs)):=k_next_23 (s45_24+1) y31_c2 y32_c3
def Z26_l23 (a0:Z0) (s14_4:Nat) (x14:TSel) (k_next_3:Nat->(List Bs)->(List Bs)->Option ((List Bs)×(List Bs))) (k_rec_27:Z0->(Sl TSel)->(List Bs)->(List Bs)->Option ((List Bs)×(List Bs))):Nat->Nat->(List Bs)->(List Bs)->Option ((List Bs)×(List Bs))
 | 0,_,_,_=>none
 | n23+1,s45_24,y25_c2,y26_c3=>bif (decide (((s45_24:Nat):Int)<((a0.Fq.FFrags.l.length:Nat):Int))) then((a0.Fq.FFrags.l[s45_24]?).bind fun x34=>bif (((x34.FName==x14.FName))&&(!(y26_c3.contains x14.FName))) then((k_rec_27 a0 x34.FSels y25_c2 (insS y26_c3 x14.FName)).bind fun x38=>Z26_j30 s45_24 ((Z26_l23 a0 s14_4 x14 k_next_3 k_rec_27 n23)) x38.1 x38.2) else(Z26_j30 s45_24 ((Z26_l23 a0 s14_4 x14 k_next_3 k_rec_27 n23)) y25_c2 y26_c3)) else(Z26_j10 s14_4 k_next_3 y25_c2 y26_c3)
def Z26_l3 (a0:Z0) (a1:(Sl TSel)) (k_rec_27:Z0->(Sl TSel)->(List Bs)->(List Bs)->Option ((List Bs)×(List Bs))):Nat->Nat->(List Bs)->(List Bs)->Option ((List Bs)×(List Bs))
 | 0,_,_,_=>none
 | n3+1,s14_4,y5_c2,y6_c3=>bif (decide (((s14_4:Nat):Int)<((a1.l.length:Nat):Int))) then((a1.l[s14_4]?).bind fun x14=>bif (decide (x14.FKind=(3:Int))) then((k_rec_27 a0 x14.FSels y5_c2 y6_c3).bind fun x18=>Z26_j10 s14_4 ((Z26_l3 a0 a1 k_rec_27 n3)) x18.1 x18.2) else(bif (decide (x14.FKind=(2:Int))) then(Z26_l23 a0 s14_4 x14 ((Z26_l3 a0 a1 k_rec_27 n3)) k_rec_27 (a0.Fq.FFrags.l.length+1) 0 y5_c2 y6_c3) else(bif (!(x14.FAlias==([]:Bs))) then(Z26_j10 s14_4 ((Z26_l3 a0 a1 k_rec_27 n3)) (insS y5_c2 x14.FAlias) y6_c3) else(Z26_j10 s14_4 ((Z26_l3 a0 a1 k_rec_27 n3)) (insS y5_c2 x14.FName) y6_c3)))) else(some (y5_c2,y6_c3))
def Z26_n:Nat->Z0->(Sl TSel)->(List Bs)->(List Bs)->Option ((List Bs)×(List Bs))
 | 0,_,_,_,_=>none
 | n+1,a0,a1,a2,a3=>Z26_l3 a0 a1 (Z26_n n) (a1.l.length+1) 0 a2 a3
theorem Z26_step (n:Nat) (ih_27:∀{a0:Z0}{a1:Sl TSel}{a2 a3:List Bs}{w1 q0_2:Option Nat}{c0 c2 c3:Nat}{r:((List Bs)×(List Bs))},Z26_n n a0 a1 a2 a3=some r->∀(H:Heap) (hc0:H c0=some (.cells (Z0.cg q0_2 a0))) (hc2:H c2=some (.map (seenM a2))) (hc3:H c3=some (.map (seenM a3))) (ne_c3_c2:c3≠c2),ACalls Tryz.prog 27 [.d (.ptr c0 0),.d (Sl.d 7 TSel.c w1 a1),.d (.map c2),.d (.map c3)] H fun v h'=>v=.tup []/\h'=((H.set c2 (some (.map (seenM r.1)))).set c3 (some (.map (seenM r.2))))):∀{a0:Z0}{a1:Sl TSel}{a2 a3:List Bs}{w1 q0_2:Option Nat}{c0 c2 c3:Nat}{r:((List Bs)×(List Bs))},Z26_n (n+1) a0 a1 a2 a3=some r->∀(H:Heap) (hc0:H c0=some (.cells (Z0.cg q0_2 a0))) (hc2:H c2=some (.map (seenM a2))) (hc3:H c3=some (.map (seenM a3))) (ne_c3_c2:c3≠c2),ACalls Tryz.prog 27 [.d (.ptr c0 0),.d (Sl.d 7 TSel.c w1 a1),.d (.map c2),.d (.map c3)] H fun v h'=>v=.tup []/\h'=((H.set c2 (some (.map (seenM r.1)))).set c3 (some (.map (seenM r.2)))):=by
 intro a0 a1 a2 a3 w1 q0_2 c0 c2 c3 r hE H hc0 hc2 hc3 ne_c3_c2;rw [Z26_n] at hE;refine ACalls.oW 72 [] Tryz.call27 Tryz.func27 ?_;have ne_c2_c0:c2≠c0:=fun e_=>by subst e_; simp_all
 have ne_c3_c0:c3≠c0:=fun e_=>by subst e_; simp_all
 refine AWp.heqA (h':=((H.set c2 (some (.map (seenM a2)))).set c3 (some (.map (seenM a3))))) (by funext n_; simp only [Heap.set]; (repeat' split)<;>simp_all) ?_;refine seqR (S Mv ?_);refine sLen (f:=TSel.c) (s:=a1) (TK rfl) rfl rfl rfl rfl fun hL2=>?_;refine S Mv (nil ?_);refine block ?_;refine loopH (TA 0 (TA 2 (TA 3 (TA 12 (TA 13 KeepsT.nil))))) (fun(z:Nat×Nat×(List Bs)×(List Bs))=>[(14,.a (.d (.int .i64 ((z.2.1:Nat):Int))))]) (fun z=>((H.set c2 (some (.map (seenM z.2.2.1)))).set c3 (some (.map (seenM z.2.2.2))))) (fun z=>z.1) (fun z=>Z26_l3 a0 a1 (Z26_n n) z.1 z.2.1 z.2.2.1 z.2.2.2=some r) ((a1.l.length+1),0,a2,a3) hE Weak.toA ?_
 rintro ⟨n3,s14_4,y5_c2,y6_c3⟩ hE K3 hK3;try dsimp only at hE
 cases n3 with
 | zero=>cases hE
 | succ n3 =>
   rw [Z26_l3] at hE;refine seqR (S BI (nil ?_));refine seqK fun K8 hK8=>?_;refine cE hE (fun hc9 hE=>?_) (fun hc9 hE=>?_)
   ·try dsimp only at hc9
    have hf9:=of_decide_eq_true hc9;refine sk hK8 ?_;clear hK8 K8;refine seqJH (TA 0 (TA 2 (TA 3 (TA 12 (TA 13 (TA 14 KeepsT.nil)))))) (fun(z:(List Bs)×(List Bs))=>[]) (fun z=>((H.set c2 (some (.map (seenM z.1)))).set c3 (some (.map (seenM z.2))))) (fun z=>Z26_j10 s14_4 ((Z26_l3 a0 a1 (Z26_n n) n3)) z.1 z.2=some r) ?_ ?_
    ·intro K10 hK10;refine block ?_;refine seqR ?_;obtain⟨x14,gx14,hE⟩:=bO hE;refine S (ix TSel.c s14_4 gx14) (S Ld ?_);refine Sl ?_;refine Sf ?_;refine nil ?_;refine freezeA 9 _ rfl (KA 0 (KA 2 (KA 3 (KA 12 (KA 13 (KA 14 Keeps.nil)))))) ?_;refine seqR (S Fv (S Ld (nil ?_)));refine block ?_;refine seqR (S BI (S As (nil ?_)));refine cE hE (fun hc17 hE=>?_) (fun hc17 hE=>?_)
     ·refine region ?_;refine S Mv (S Fv ?_);refine s0 (loadV (TK rfl) rfl rfl (congrArg (fun x=>some (A.d x)) (TSel.FSelsD_eq _))) rfl ?_;refine S Mv (S Mv ?_);obtain⟨x18,gx18,hE⟩:=bO hE;refine sH (callH rfl rfl (ih_27 gx18 _ hpG hpG hpG (by assumption))) rfl ?_;refine hq ((H.set c2 (some (.map (seenM x18.1)))).set c3 (some (.map (seenM x18.2)))) ?_;refine nil ?_;exact hK10 _ (x18.1,x18.2) Weak.toA hE
     refine seqR (S BI (S As (nil ?_)));refine cE hE (fun hc20 hE=>?_) (fun hc20 hE=>?_)
     ·refine seqR (S Mv (S NP ?_));refine s0 (fieldP (TK rfl) rfl rfl (TK rfl) rfl rfl) rfl ?_;refine s0 (fieldP (TK rfl) rfl rfl (TK rfl) rfl rfl) rfl ?_;refine s0 (loadP (TK rfl) rfl rfl hpG rfl) rfl ?_;refine sLen (f:=Z5.c) (s:=a0.Fq.FFrags) (TK rfl) rfl rfl rfl rfl fun hL22=>?_;refine S Mv (nil ?_);refine block ?_;refine loopH (TA 0 (TA 2 (TA 3 (TA 9 (TA 12 (TA 13 (TA 14 (TA 43 (TA 44 KeepsT.nil))))))))) (fun(z:Nat×Nat×(List Bs)×(List Bs))=>[(45,.a (.d (.int .i64 ((z.2.1:Nat):Int))))]) (fun z=>((H.set c2 (some (.map (seenM z.2.2.1)))).set c3 (some (.map (seenM z.2.2.2))))) (fun z=>z.1) (fun z=>Z26_l23 a0 s14_4 x14 ((Z26_l3 a0 a1 (Z26_n n) n3)) (Z26_n n) z.1 z.2.1 z.2.2.1 z.2.2.2=some r) ((a0.Fq.FFrags.l.length+1),0,y5_c2,y6_c3) hE Weak.toA ?_
      rintro ⟨n23,s45_24,y25_c2,y26_c3⟩ hE K23 hK23;try dsimp only at hE
      cases n23 with
      | zero=>cases hE
      | succ n23 =>
        rw [Z26_l23] at hE;refine seqR (S BI (nil ?_));refine seqK fun K28 hK28=>?_;refine cE hE (fun hc29 hE=>?_) (fun hc29 hE=>?_)
        ·try dsimp only at hc29
         have hf29:=of_decide_eq_true hc29;refine sk hK28 ?_;clear hK28 K28;refine seqJH (TA 0 (TA 2 (TA 3 (TA 9 (TA 12 (TA 13 (TA 14 (TA 43 (TA 44 (TA 45 KeepsT.nil)))))))))) (fun(z:(List Bs)×(List Bs))=>[]) (fun z=>((H.set c2 (some (.map (seenM z.1)))).set c3 (some (.map (seenM z.2))))) (fun z=>Z26_j30 s45_24 ((Z26_l23 a0 s14_4 x14 ((Z26_l3 a0 a1 (Z26_n n) n3)) (Z26_n n) n23)) z.1 z.2=some r) ?_ ?_
         ·intro K30 hK30;refine block ?_;refine seqR ?_;obtain⟨x34,gx34,hE⟩:=bO hE;refine S (ix Z5.c s45_24 gx34) (S Ld ?_);refine Sl ?_;refine Sf ?_;refine nil ?_;refine freezeA 11 _ rfl (KA 0 (KA 2 (KA 3 (KA 9 (KA 12 (KA 13 (KA 14 (KA 43 (KA 44 (KA 45 Keeps.nil)))))))))) ?_;refine seqR (S Fv (S Ld (S Fv (S Ld (S BS (S Mv (G0 Mv (G0 Fv ?_))))))));refine G1 56 rfl Ld ?_;refine gC rfl rfl (fun hC=>ungdA (k:=55) rfl (ungdA (k:=57) rfl (lookupSeen (TK rfl) rfl (TK rfl) (TK rfl) rfl rfl rfl rfl hpG))) rfl ?_
          refine G1 58 rfl NB ?_;refine S PA (nil ?_);refine cE hE (fun hc36 hE=>?_) (fun hc36 hE=>?_)
          ·refine seqR (S Mv (S Fv (S Ld ?_)));refine sHn (mapUpdate (TK rfl) rfl (TK rfl) rfl rfl rfl rfl hpG (seen_upd _ _) rfl) rfl rfl ?_;refine hq ((H.set c2 (some (.map (seenM y25_c2)))).set c3 (some (.map (seenM (insS y26_c3 x14.FName))))) ?_;refine nil ?_;refine region ?_;refine S Mv (S Fv (S Ld (S Mv (S Mv ?_))));obtain⟨x38,gx38,hE⟩:=bO hE;refine sH (callH rfl rfl (ih_27 gx38 _ hpG hpG hpG (by assumption))) rfl ?_
           refine hq ((H.set c2 (some (.map (seenM x38.1)))).set c3 (some (.map (seenM x38.2)))) ?_;refine nil ?_;exact hK30 _ (x38.1,x38.2) Weak.toA hE
          refine AWp.skip ?_;exact hK30 _ (y25_c2,y26_c3) Weak.toA hE
         rintro ⟨y31_c2,y32_c3⟩ hE;try dsimp only at hE
         unfold Z26_j30 at hE;refine region ?_;refine SI ?_;refine S Mv (nil ?_);exact hK23 _ (n23,(s45_24+1),y31_c2,y32_c3) Weak.toA hE (Nat.lt_succ_self _)
        refine AWp.exit ?_;exact hK10 _ (y25_c2,y26_c3) Weak.toA hE
     refine seqR (S Fv (S Ld (S BS (nil ?_))));refine cE hE (fun hc40 hE=>?_) (fun hc40 hE=>?_)
     ·refine region ?_;refine S Mv (S Fv (S Ld ?_));refine sHn (mapUpdate (TK rfl) rfl (TK rfl) rfl rfl rfl rfl hpG (seen_upd _ _) rfl) rfl rfl ?_;refine hq ((H.set c2 (some (.map (seenM (insS y5_c2 x14.FAlias))))).set c3 (some (.map (seenM y6_c3)))) ?_;refine nil ?_;exact hK10 _ ((insS y5_c2 x14.FAlias),y6_c3) Weak.toA hE
     refine region ?_;refine S Mv (S Fv (S Ld ?_));refine sHn (mapUpdate (TK rfl) rfl (TK rfl) rfl rfl rfl rfl hpG (seen_upd _ _) rfl) rfl rfl ?_;refine hq ((H.set c2 (some (.map (seenM (insS y5_c2 x14.FName))))).set c3 (some (.map (seenM y6_c3)))) ?_;refine nil ?_;exact hK10 _ ((insS y5_c2 x14.FName),y6_c3) Weak.toA hE
    rintro ⟨y11_c2,y12_c3⟩ hE;try dsimp only at hE
    unfold Z26_j10 at hE;refine region ?_;refine SI ?_;refine S Mv (nil ?_);exact hK3 _ (n3,(s14_4+1),y11_c2,y12_c3) Weak.toA hE (Nat.lt_succ_self _)
   refine AWp.exit ?_;repeat (first|refine xBlock_normal ?_|refine xThen_exit ?_|refine xBlock_exit ?_)
   obtain rfl:=Option.some.inj hE;refine retQ.normalF ((H.set c2 (some (.map (seenM y5_c2)))).set c3 (some (.map (seenM y6_c3)))) (xs:=[]) rfl ⟨rfl,rfl⟩ ?_;exact(fun _ _ h=>h)
theorem Z26_all:∀(n:Nat),(∀{a0:Z0}{a1:Sl TSel}{a2 a3:List Bs}{w1 q0_2:Option Nat}{c0 c2 c3:Nat}{r:((List Bs)×(List Bs))},Z26_n n a0 a1 a2 a3=some r->∀(H:Heap) (hc0:H c0=some (.cells (Z0.cg q0_2 a0))) (hc2:H c2=some (.map (seenM a2))) (hc3:H c3=some (.map (seenM a3))) (ne_c3_c2:c3≠c2),ACalls Tryz.prog 27 [.d (.ptr c0 0),.d (Sl.d 7 TSel.c w1 a1),.d (.map c2),.d (.map c3)] H fun v h'=>v=.tup []/\h'=((H.set c2 (some (.map (seenM r.1)))).set c3 (some (.map (seenM r.2)))))
 | 0=>fun hE=>by first|cases hE|(rw [Z26_n] at hE; cases hE)
 | n+1=>Z26_step n (Z26_all n)
def Z26 (a0:Z0) (a1:(Sl TSel)) (a2:(List Bs)) (a3:(List Bs)):Option ((List Bs)×(List Bs)):=Z26_n F0 a0 a1 a2 a3
theorem Z26_walk {a0:Z0}{a1:Sl TSel}{a2 a3:List Bs}{w1 q0_2:Option Nat}{c0 c2 c3:Nat}{r:((List Bs)×(List Bs))}(hE:Z26 a0 a1 a2 a3=some r) (H:Heap) (hc0:H c0=some (.cells (Z0.cg q0_2 a0))) (hc2:H c2=some (.map (seenM a2))) (hc3:H c3=some (.map (seenM a3))) (ne_c3_c2:c3≠c2):ACalls Tryz.prog 27 [.d (.ptr c0 0),.d (Sl.d 7 TSel.c w1 a1),.d (.map c2),.d (.map c3)] H fun v h'=>v=.tup []/\h'=((H.set c2 (some (.map (seenM r.1)))).set c3 (some (.map (seenM r.2)))):=(Z26_all F0) hE H hc0 hc2 hc3 ne_c3_c2
def Z21 (a0:Z0) (a1:Bool) (a2:Int) (a3:Bs):Option Z0:=bif a1 then((appC 24 a0.Fout (⟨false,[(Z3.mk a2 a3)]⟩:Sl Z3)).bind fun x3=>some (Z0.mk a0.Fd a0.Fq x3)) else(some a0)
theorem Z21_walk {a0:Z0}{a1:Bool}{a2:Int}{a3:Bs}{c0 c0_2:Nat}{r:Z0}(hE:Z21 a0 a1 a2 a3=some r) (H:Heap) (hc0:H c0=some (.cells (Z0.cg (some c0_2) a0))) (ht0_2:H c0_2=some (.tok 2 a0.Fout.l.length)):ACalls Tryz.prog 28 [.d (.ptr c0 0),.d (.bool a1),.d (.int .i64 a2),.d (.str a3)] H fun v h'=>v=.tup []/\h'=((H.set c0_2 (some (.tok 2 r.Fout.l.length))).set c0 (some (.cells (Z0.cg (some c0_2) r)))):=by
 unfold Z21 at hE;refine ACalls.oW 21 [] Tryz.call28 Tryz.func28 ?_;have ne_c0_c0_2:c0≠c0_2:=fun e_=>by subst e_; simp_all
 refine AWp.heqA (h':=((H.set c0_2 (some (.tok 2 a0.Fout.l.length))).set c0 (some (.cells (Z0.cg (some c0_2) a0))))) (by funext n_; simp only [Heap.set]; (repeat' split)<;>simp_all) ?_;refine seqR (S Mv (nil ?_));refine cE hE (fun hc2 hE=>?_) (fun hc2 hE=>?_)
 ·refine region ?_;refine S Mv (S Mv (S NP ?_));refine s0 (fieldP (TK rfl) rfl rfl (TK rfl) rfl rfl) rfl ?_;refine s0 (loadP (TK rfl) rfl rfl hpG rfl) rfl ?_;refine S Mv (S Mv (S BU (S BV ?_)));obtain⟨x3,gx3,hE⟩:=bO hE;refine SH (am Z3.c (TK rfl) rfl (TK rfl) (TK rfl) gx3) ?_;refine hq ((H.set c0_2 (some (.tok 2 x3.l.length))).set c0 (some (.cells (Z0.cg (some c0_2) a0)))) ?_;refine S NP ?_;refine s0 (fieldP (TK rfl) rfl rfl (TK rfl) rfl rfl) rfl ?_
  refine sHn (storeP1 (TK rfl) rfl rfl hpG rfl (by repeat (first|exact SetAt.zero|apply SetAt.succ))) rfl rfl ?_;refine hq ((H.set c0_2 (some (.tok 2 x3.l.length))).set c0 (some (.cells (Z0.cg (some c0_2) (Z0.mk a0.Fd a0.Fq x3))))) ?_;refine nil ?_;repeat (first|refine xBlock_normal ?_|refine xThen_exit ?_|refine xBlock_exit ?_)
  obtain rfl:=Option.some.inj hE;refine retQ.normalF ((H.set c0_2 (some (.tok 2 x3.l.length))).set c0 (some (.cells (Z0.cg (some c0_2) (Z0.mk a0.Fd a0.Fq x3))))) (xs:=[]) rfl ⟨rfl,rfl⟩ ?_;exact(fun _ _ h=>h)
 refine AWp.skip ?_;repeat (first|refine xBlock_normal ?_|refine xThen_exit ?_|refine xBlock_exit ?_)
 obtain rfl:=Option.some.inj hE;refine retQ.normalF ((H.set c0_2 (some (.tok 2 a0.Fout.l.length))).set c0 (some (.cells (Z0.cg (some c0_2) a0)))) (xs:=[]) rfl ⟨rfl,rfl⟩ ?_;exact(fun _ _ h=>h)
end Go.Proofs
