import Derived.Test.YtiamohifcjoepaaGreatDoorV1
set_option maxRecDepth 100000
set_option maxHeartbeats 2000000
set_option linter.unusedVariables false
set_option linter.unusedSimpArgs false
namespace Go.Proofs
open Go Go.Ab
open AOps Cert AWp Keeps KeepsT
variable {lou:Lou}
def Z66 (a0:Z4) (a1:Bs) (a2:Bs) (a3:(List Bs)):Option (Z4×(List Bs)):=(Z83 a1).bind fun x2=>guardO (!(!x2)) (Z84 a1) false fun x3=>(Z60 a0 ((!x2)||x3) (6:Int) a2).bind fun x4=>(Z60 x4 (a3.contains a1) (7:Int) a2).bind fun x6=>some (x6,(insS a3 a1))
theorem Z66_walk {a0:Z4}{a1 a2:Bs}{a3:List Bs}{c0 c0_1 c3:Nat}{r:(Z4×(List Bs))}(hE:Z66 a0 a1 a2 a3=some r) (H:Heap) (hc0:H c0=some (.cells (Z4.cg (some c0_1) a0))) (ht0_1:H c0_1=some (.tok 2 a0.Ffaults.l.length)) (hc3:H c3=some (.map (seenM a3))):AC Tryz.prog 75 [.d (.ptr c0 0),.d (.str a1),.d (.str a2),.d (.map c3)] H fun v h'=>v=.tup []/\h'=(((H.set c0_1 (some (.tok 2 r.1.Ffaults.l.length))).set c0 (some (.cells (Z4.cg (some c0_1) r.1)))).set c3 (some (.map (seenM r.2)))):=by
 unfold Z66 at hE;refine AC.oW 26 [] Tryz.call75 Tryz.func75 ?_;have ne_c0_c0_1:c0≠c0_1:=fun e_=>by subst e_; simp_all
 have ne_c3_c0_1:c3≠c0_1:=fun e_=>by subst e_; simp_all
 have ne_c3_c0:c3≠c0:=fun e_=>by subst e_; simp_all
 refine AWp.heqA (h':=(((H.set c0_1 (some (.tok 2 a0.Ffaults.l.length))).set c0 (some (.cells (Z4.cg (some c0_1) a0)))).set c3 (some (.map (seenM a3))))) (by funext n_; simp only [Heap.set]; (repeat' split)<;>simp_all) ?_;refine seqR (S Mv (S Mv ?_));obtain⟨x2,gx2,hE⟩:=bO hE;refine Sc rfl rfl (Z83_walk gx2) ?_;refine S NB (S Mv (G0 Mv ?_));obtain⟨x3,gx3,hE⟩:=gO hE;refine Gc1 13 rfl rfl rfl rfl rfl (fun hC=>Z84_walk (gx3 hC)) ?_
 refine S PO (S Mv ?_);obtain⟨x4,gx4,hE⟩:=bO hE;refine sH (callH rfl rfl (Z60_walk gx4 _ hpG hpG)) rfl ?_;refine hq (((H.set c0_1 (some (.tok 2 x4.Ffaults.l.length))).set c0 (some (.cells (Z4.cg (some c0_1) x4)))).set c3 (some (.map (seenM a3)))) ?_;refine nil ?_;refine seqR (S Mv (S Mv (S Mv ?_)));refine s0 (lookupSeen (TK rfl) rfl (TK rfl) (TK rfl) rfl rfl rfl rfl hpG) rfl ?_;refine S Mv ?_;obtain⟨x6,gx6,hE⟩:=bO hE
 refine sH (callH rfl rfl (Z60_walk gx6 _ hpG hpG)) rfl ?_;refine hq (((H.set c0_1 (some (.tok 2 x6.Ffaults.l.length))).set c0 (some (.cells (Z4.cg (some c0_1) x6)))).set c3 (some (.map (seenM a3)))) ?_;refine nil ?_;refine region ?_;refine S Mv (S Mv ?_);refine sHn (mapUpdate (TK rfl) rfl (TK rfl) rfl rfl rfl rfl hpG (seen_upd _ _) rfl) rfl rfl ?_;refine hq (((H.set c0_1 (some (.tok 2 x6.Ffaults.l.length))).set c0 (some (.cells (Z4.cg (some c0_1) x6)))).set c3 (some (.map (seenM (insS a3 a1))))) ?_
 refine nil ?_;repeat (first|refine xBlock_normal ?_|refine xThen_exit ?_|refine xBlock_exit ?_)
 obtain rfl:=oJ hE;refine retQ.normalF (((H.set c0_1 (some (.tok 2 x6.Ffaults.l.length))).set c0 (some (.cells (Z4.cg (some c0_1) x6)))).set c3 (some (.map (seenM (insS a3 a1))))) (xs:=[]) rfl ⟨rfl,rfl⟩ ?_;exact(fun _ _ h=>h)
def Z68 (a0:TDoc) (a1:Bs):Option Int:=(Z55 a0 a1).bind fun x3=>some x3.1.FKind
theorem Z68_walk {a0:TDoc}{a1:Bs}{r:Int}(hE:Z68 a0 a1=some r) (H:Heap) :AC Tryz.prog 83 [.agg (TDoc.c a0),.d (.str a1)] H fun v h'=>v=.a (.d (.int .i64 r))/\h'=H:=by
 unfold Z68 at hE;refine AC.oW 15 [.tmp 4] Tryz.call83 Tryz.func83 ?_;refine seqR (S BX (S As (nil ?_)));refine seqR (S Ld (S Mv ?_));obtain⟨x3,gx3,hE⟩:=bO hE;refine Sc rfl rfl (Z55_walk gx3) ?_;refine S Mv (S EX (S EX ?_));refine Sl ?_;refine Sf ?_;refine S As (nil ?_);refine freezeA 5 _ rfl Keeps.nil ?_;refine seqR (S Fv (S Ld (S As (nil ?_))));exact rt hE
def Z67 (a0:Z4) (a1:Bs) (a2:Bs) (a3:Int):Option Z4:=(Z55 a0.Fd a1).bind fun x2=>guardO ((!x2.2)) (Z59 a1) false fun x4=>bif ((!x2.2)&&(!x4)) then(none) else(bif (decide (a3=(0:Int))) then((Z59 a1).bind fun x8=>guardO ((!x8)) (Z68 a0.Fd a1) (0:Int) fun x9=>(Z60 a0 ((!x8)&&(decide (x9=(5:Int)))) (10:Int) a2).bind fun x10=>some x10) else(none))
theorem Z67_walk {a0:Z4}{a1 a2:Bs}{a3:Int}{c0 c0_1:Nat}{r:Z4}(hE:Z67 a0 a1 a2 a3=some r) (H:Heap) (hc0:H c0=some (.cells (Z4.cg (some c0_1) a0))) (ht0_1:H c0_1=some (.tok 2 a0.Ffaults.l.length)):AC Tryz.prog 76 [.d (.ptr c0 0),.d (.str a1),.d (.str a2),.d (.int .i64 a3)] H fun v h'=>v=.tup []/\h'=((H.set c0_1 (some (.tok 2 r.Ffaults.l.length))).set c0 (some (.cells (Z4.cg (some c0_1) r)))):=by
 unfold Z67 at hE;refine AC.oW 58 [] Tryz.call76 Tryz.func76 ?_;have ne_c0_c0_1:c0≠c0_1:=fun e_=>by subst e_; simp_all
 refine AWp.heqA (h':=((H.set c0_1 (some (.tok 2 a0.Ffaults.l.length))).set c0 (some (.cells (Z4.cg (some c0_1) a0))))) (by funext n_; simp only [Heap.set]; (repeat' split)<;>simp_all) ?_;refine seqR (S Mv (S NP ?_));refine s0 (fieldP (TK rfl) rfl rfl (TK rfl) rfl rfl) rfl ?_;refine s0 (loadP (TK rfl) rfl rfl hpG rfl) rfl ?_;refine S Mv ?_;obtain⟨x2,gx2,hE⟩:=bO hE;refine Sc rfl rfl (Z55_walk gx2) ?_
 refine S Mv (S EX (S EX ?_));refine Sl ?_;refine Sf ?_;refine S As (nil ?_);refine freezeA 8 _ rfl (KA 0 (KA 1 (KA 2 (KA 3 (KA 9 Keeps.nil))))) ?_;refine block ?_;refine seqR (S Mv (S NB (S Mv (G0 Mv ?_))));obtain⟨x4,gx4,hE⟩:=gO hE;refine Gc1 33 rfl rfl rfl rfl rfl (fun hC=>Z59_walk (gx4 hC)) ?_;refine G1 34 rfl NB ?_;refine S PA (S As (nil ?_));refine cE hE (fun hc5 hE=>?_) (fun hc5 hE=>?_)
 ·cases hE
 refine seqR (S Mv (S BI (S As (nil ?_))));refine cE hE (fun hc7 hE=>?_) (fun hc7 hE=>?_)
 ·refine region ?_;refine S Mv (S Mv ?_);obtain⟨x8,gx8,hE⟩:=bO hE;refine Sc rfl rfl (Z59_walk gx8) ?_;refine S NB (S Mv (G0 Mv ?_));refine G1 48 rfl NP ?_;refine gC rfl rfl (fun hC=>ungdA (k:=49) rfl (fieldP (TK rfl) rfl rfl (TK rfl) rfl rfl)) rfl ?_;refine gC rfl rfl (fun hC=>ungdA (k:=50) rfl (loadP (TK rfl) rfl rfl hpG rfl)) rfl ?_;refine G0 Mv ?_;obtain⟨x9,gx9,hE⟩:=gO hE;refine Gc2 51 52 rfl rfl rfl rfl rfl rfl (fun hC=>Z68_walk (gx9 hC)) ?_
  refine G1 53 rfl BI ?_;refine S PA (S Mv ?_);obtain⟨x10,gx10,hE⟩:=bO hE;refine sH (callH rfl rfl (Z60_walk gx10 _ hpG hpG)) rfl ?_;refine hq ((H.set c0_1 (some (.tok 2 x10.Ffaults.l.length))).set c0 (some (.cells (Z4.cg (some c0_1) x10)))) ?_;refine nil ?_;repeat (first|refine xBlock_normal ?_|refine xThen_exit ?_|refine xBlock_exit ?_)
  obtain rfl:=oJ hE;refine retQ.normalF ((H.set c0_1 (some (.tok 2 x10.Ffaults.l.length))).set c0 (some (.cells (Z4.cg (some c0_1) x10)))) (xs:=[]) rfl ⟨rfl,rfl⟩ ?_;exact(fun _ _ h=>h)
 cases hE
def Z63_l5 (a1:(Sl Z7)) :Nat->Nat->Z4->(List Bs)->Option Z4
 | 0,_,_,_=>none
 | n5+1,s15_6,y7_c0,y8_id12_2=>bif (decide (((s15_6:Nat):Int)<((a1.l.length:Nat):Int))) then(none) else(some y7_c0)
def Z63 (a0:Z4) (a1:(Sl Z7)) (a2:Bs) (a3:Bs):Option Z4:=Z63_l5 a1 (a1.l.length+1) 0 a0 ([]:List Bs)
theorem Z63_walk {a0:Z4}{a1:Sl Z7}{a2 a3:Bs}{w1:Option Nat}{c0 c0_1:Nat}{r:Z4}(hE:Z63 a0 a1 a2 a3=some r) (H:Heap) (hc0:H c0=some (.cells (Z4.cg (some c0_1) a0))) (ht0_1:H c0_1=some (.tok 2 a0.Ffaults.l.length)):AC Tryz.prog 65 [.d (.ptr c0 0),.d (Sl.d 10 Z7.c w1 a1),.d (.str a2),.d (.str a3)] H fun v h'=>v=.tup []/\h'=((H.set c0_1 (some (.tok 2 r.Ffaults.l.length))).set c0 (some (.cells (Z4.cg (some c0_1) r)))):=by
 unfold Z63 at hE;refine AC.oW 38 [] Tryz.call65 Tryz.func65 ?_;have ne_c0_c0_1:c0≠c0_1:=fun e_=>by subst e_; simp_all
 refine AWp.heqA (h':=((H.set c0_1 (some (.tok 2 a0.Ffaults.l.length))).set c0 (some (.cells (Z4.cg (some c0_1) a0))))) (by funext n_; simp only [Heap.set]; (repeat' split)<;>simp_all) ?_;refine seqR ?_;refine sE StepE.makeMap rfl (fun _ _ _ ⟨id12_2,hid12_2,e1,e2,e3⟩=>?_); subst e1 e2 e3;obtain⟨ne_id12_2_c0,hid12_2⟩:=Heap.set_fresh hid12_2;obtain⟨ne_id12_2_c0_1,hid12_2⟩:=Heap.set_fresh hid12_2;refine hq (((H.set c0_1 (some (.tok 2 a0.Ffaults.l.length))).set c0 (some (.cells (Z4.cg (some c0_1) a0)))).set id12_2 (some (.map (seenM ([]:List Bs))))) ?_
 refine S As (nil ?_);refine seqR (S Mv ?_);refine sLen (f:=Z7.c) (s:=a1) (TK rfl) rfl rfl rfl rfl fun hL4=>?_;refine S Mv (nil ?_);refine block ?_;refine loopH (TA 0 (TA 2 (TA 3 (TA 8 (TA 13 (TA 14 kN)))))) (fun(z:Nat×Nat×Z4×(List Bs))=>[(15,.a (.d (.int .i64 ((z.2.1:Nat):Int))))]) (fun z=>(((H.set c0_1 (some (.tok 2 z.2.2.1.Ffaults.l.length))).set c0 (some (.cells (Z4.cg (some c0_1) z.2.2.1)))).set id12_2 (some (.map (seenM z.2.2.2))))) (fun z=>z.1) (fun z=>Z63_l5 a1 z.1 z.2.1 z.2.2.1 z.2.2.2=some r) ((a1.l.length+1),0,a0,([]:List Bs)) hE wA ?_
 rintro ⟨n5,s15_6,y7_c0,y8_id12_2⟩ hE K5 hK5;try dsimp only at hE
 cases n5 with
 | zero=>cases hE
 | succ n5 =>
   rw [Z63_l5] at hE;refine seqR (S BI (nil ?_));refine seqK fun K10 hK10=>?_;refine cE hE (fun hc11 hE=>?_) (fun hc11 hE=>?_)
   ·try dsimp only at hc11
    have hf11:=oD hc11;cases hE
   refine AWp.exit ?_;repeat (first|refine xBlock_normal ?_|refine xThen_exit ?_|refine xBlock_exit ?_)
   obtain rfl:=oJ hE;refine retQ.normalF ((H.set c0_1 (some (.tok 2 y7_c0.Ffaults.l.length))).set c0 (some (.cells (Z4.cg (some c0_1) y7_c0)))) (xs:=[]) rfl ⟨rfl,rfl⟩ ?_;intro id_ o_ he_;have e_id12_2:id_≠id12_2:=fun e_=>by subst e_; simp_all [Heap.set]
   rw [<- he_];simp only [Heap.set] at he_ ⊢
   (repeat' split)<;>simp_all
def Z62_l6 (a1:TDef) :Nat->Nat->Z4->(List Bs)->Option Z4
 | 0,_,_,_=>none
 | n6+1,s12_7,y8_c0,y9_id8_3=>bif (decide (((s12_7:Nat):Int)<((a1.FFields.l.length:Nat):Int))) then((a1.FFields.l[s12_7]?).bind fun x15=>(catC a1.FName ([46]:Bs)).bind fun x17=>(catC x17 x15.FName).bind fun x18=>(Z66 y8_c0 x15.FName x18 y9_id8_3).bind fun x20=>(Z67 x20.1 x15.FType.FName x18 (0:Int)).bind fun x22=>(catC x18 ([40]:Bs)).bind fun x23=>(Z63 x22 x15.FArgs x23 ([41]:Bs)).bind fun x24=>(Z62_l6 a1 n6) (s12_7+1) x24 x20.2) else(some y8_c0)
def Z62 (a0:Z4) (a1:TDef):Option Z4:=Z62_l6 a1 (a1.FFields.l.length+1) 0 a0 ([]:List Bs)
theorem Z62_walk {a0:Z4}{a1:TDef}{c0 c0_1:Nat}{r:Z4}(hE:Z62 a0 a1=some r) (H:Heap) (hc0:H c0=some (.cells (Z4.cg (some c0_1) a0))) (ht0_1:H c0_1=some (.tok 2 a0.Ffaults.l.length)):AC Tryz.prog 63 [.d (.ptr c0 0),.agg (TDef.c a1)] H fun v h'=>v=.tup []/\h'=((H.set c0_1 (some (.tok 2 r.Ffaults.l.length))).set c0 (some (.cells (Z4.cg (some c0_1) r)))):=by
 unfold Z62 at hE;refine AC.oW 41 [] Tryz.call63 Tryz.func63 ?_;have ne_c0_c0_1:c0≠c0_1:=fun e_=>by subst e_; simp_all
 refine AWp.heqA (h':=((H.set c0_1 (some (.tok 2 a0.Ffaults.l.length))).set c0 (some (.cells (Z4.cg (some c0_1) a0))))) (by funext n_; simp only [Heap.set]; (repeat' split)<;>simp_all) ?_;refine seqR (S BX (nil ?_));refine seqR ?_;refine sE StepE.makeMap rfl (fun _ _ _ ⟨id8_3,hid8_3,e1,e2,e3⟩=>?_); subst e1 e2 e3;obtain⟨ne_id8_3_c0,hid8_3⟩:=Heap.set_fresh hid8_3;obtain⟨ne_id8_3_c0_1,hid8_3⟩:=Heap.set_fresh hid8_3
 refine hq (((H.set c0_1 (some (.tok 2 a0.Ffaults.l.length))).set c0 (some (.cells (Z4.cg (some c0_1) a0)))).set id8_3 (some (.map (seenM ([]:List Bs))))) ?_;refine S As (nil ?_);refine seqR (S Fv (S Ld ?_));refine sLen (f:=Z6.c) (s:=a1.FFields) (TK rfl) rfl rfl rfl rfl fun hL5=>?_;refine S Mv (nil ?_);refine block ?_;refine loopH (TA 0 (TA 3 (TA 4 (TA 10 (TA 11 kN))))) (fun(z:Nat×Nat×Z4×(List Bs))=>[(12,.a (.d (.int .i64 ((z.2.1:Nat):Int))))]) (fun z=>(((H.set c0_1 (some (.tok 2 z.2.2.1.Ffaults.l.length))).set c0 (some (.cells (Z4.cg (some c0_1) z.2.2.1)))).set id8_3 (some (.map (seenM z.2.2.2))))) (fun z=>z.1) (fun z=>Z62_l6 a1 z.1 z.2.1 z.2.2.1 z.2.2.2=some r) ((a1.FFields.l.length+1),0,a0,([]:List Bs)) hE wA ?_
 rintro ⟨n6,s12_7,y8_c0,y9_id8_3⟩ hE K6 hK6;try dsimp only at hE
 cases n6 with
 | zero=>cases hE
 | succ n6 =>
   rw [Z62_l6] at hE;refine seqR (S BI (nil ?_));refine seqK fun K11 hK11=>?_;refine cE hE (fun hc12 hE=>?_) (fun hc12 hE=>?_)
   ·try dsimp only at hc12
    have hf12:=oD hc12;refine sk hK11 ?_;clear hK11 K11;refine seqK fun K13 hK13=>?_;refine block ?_;refine seqR ?_;obtain⟨x15,gx15,hE⟩:=bO hE;refine S (ix Z6.c s12_7 gx15) (S Ld ?_);refine Sl ?_;refine Sf ?_;refine nil ?_;refine freezeA 6 _ rfl (KA 0 (KA 3 (KA 4 (KA 10 (KA 11 (KA 12 Keeps.nil)))))) ?_;refine seqR (S Fv (S Ld ?_));obtain⟨x17,gx17,hE⟩:=bO hE;refine s0 (catM rfl rfl gx17) rfl ?_
    refine S Fv (S Ld ?_);obtain⟨x18,gx18,hE⟩:=bO hE;refine s0 (catM rfl rfl gx18) rfl ?_;refine S As (nil ?_);refine seqR (S Mv (S Fv (S Ld (S Mv (S Mv ?_)))));obtain⟨x20,gx20,hE⟩:=bO hE;refine sH (callH rfl rfl (Z66_walk gx20 _ hpG hpG hpG)) rfl ?_;refine hq (((H.set c0_1 (some (.tok 2 x20.1.Ffaults.l.length))).set c0 (some (.cells (Z4.cg (some c0_1) x20.1)))).set id8_3 (some (.map (seenM x20.2)))) ?_
    refine nil ?_;refine seqR (S Mv (S Fv (S Fv (S Ld (S Mv ?_)))));obtain⟨x22,gx22,hE⟩:=bO hE;refine sH (callH rfl rfl (Z67_walk gx22 _ hpG hpG)) rfl ?_;refine hq (((H.set c0_1 (some (.tok 2 x22.Ffaults.l.length))).set c0 (some (.cells (Z4.cg (some c0_1) x22)))).set id8_3 (some (.map (seenM x20.2)))) ?_;refine nil ?_;refine region ?_;refine S Mv (S Fv (S Ld (S Mv ?_)));obtain⟨x23,gx23,hE⟩:=bO hE;refine s0 (catM rfl rfl gx23) rfl ?_
    obtain⟨x24,gx24,hE⟩:=bO hE;refine sH (callH rfl rfl (Z63_walk gx24 _ hpG hpG)) rfl ?_;refine hq (((H.set c0_1 (some (.tok 2 x24.Ffaults.l.length))).set c0 (some (.cells (Z4.cg (some c0_1) x24)))).set id8_3 (some (.map (seenM x20.2)))) ?_;refine nil ?_;refine hK13 _ ?_;clear hK13 K13;refine region ?_;refine SI ?_;refine S Mv (nil ?_);exact hK6 _ (n6,(s12_7+1),x24,x20.2) wA hE (nS _)
   refine AWp.exit ?_;repeat (first|refine xBlock_normal ?_|refine xThen_exit ?_|refine xBlock_exit ?_)
   obtain rfl:=oJ hE;refine retQ.normalF ((H.set c0_1 (some (.tok 2 y8_c0.Ffaults.l.length))).set c0 (some (.cells (Z4.cg (some c0_1) y8_c0)))) (xs:=[]) rfl ⟨rfl,rfl⟩ ?_;intro id_ o_ he_;have e_id8_3:id_≠id8_3:=fun e_=>by subst e_; simp_all [Heap.set]
   rw [<- he_];simp only [Heap.set] at he_ ⊢
   (repeat' split)<;>simp_all
def Z61_j23 (a2:(List Bs)) (x2:TDef) (x21:Z4)  (s120_24:Bool):Option (Z4×(List Bs)):=bif s120_24 then((Z62 x21 x2).bind fun x26=>some (x26,(insS a2 x2.FName))) else(none)
def Z61_j12 (a2:(List Bs)) (x2:TDef) (x9:Z4)  (s7_13:Bool):Option (Z4×(List Bs)):=(Z60 x9 s7_13 (8:Int) x2.FName).bind fun x15=>(Z60 x15 (((((((x2.FName==([81,117,101,114,121]:Bs)))||((x2.FName==([77,117,116,97,116,105,111,110]:Bs))))||((x2.FName==([83,117,98,115,99,114,105,112,116,105,111,110]:Bs))))&&(!decide (x2.FKind=(1:Int))))||(decide (x2.FKind<(1:Int))))||(decide ((5:Int)<x2.FKind))) (9:Int) x2.FName).bind fun x18=>guardO ((decide (x2.FKind=(5:Int)))) (Z64 x18 x2) false fun x20=>(Z60 x18 ((decide (x2.FKind=(5:Int)))&&x20) (5:Int) x2.FName).bind fun x21=>bif (decide (x2.FKind=(1:Int))) then(Z61_j23 a2 x2 x21  (decide (x2.FKind=(1:Int)))) else(none)
def Z61_j30 (a2:(List Bs)) (x2:TDef) (x9:Z4)  (s48_31:Bool):Option (Z4×(List Bs)):=bif s48_31 then(Z61_j12 a2 x2 x9  (decide (((x2.FFields.l.length:Nat):Int)=(0:Int)))) else(none)
def Z61 (a0:Z4) (a1:Int) (a2:(List Bs)):Option (Z4×(List Bs)):=(idxC a0.Fd.FDefs.l a1).bind fun x2=>(Z83 x2.FName).bind fun x4=>guardO (!(!x4)) (Z84 x2.FName) false fun x5=>(Z60 a0 ((!x4)||x5) (6:Int) x2.FName).bind fun x6=>guardO (!(a2.contains x2.FName)) (Z59 x2.FName) false fun x8=>(Z60 x6 ((a2.contains x2.FName)||x8) (7:Int) x2.FName).bind fun x9=>bif (decide (x2.FKind=(1:Int))) then(Z61_j30 a2 x2 x9  (decide (x2.FKind=(1:Int)))) else(none)
theorem Z61_walk {a0:Z4}{a1:Int}{a2:List Bs}{c0 c0_1 c2:Nat}{r:(Z4×(List Bs))}(hE:Z61 a0 a1 a2=some r) (H:Heap) (hc0:H c0=some (.cells (Z4.cg (some c0_1) a0))) (ht0_1:H c0_1=some (.tok 2 a0.Ffaults.l.length)) (hc2:H c2=some (.map (seenM a2))):AC Tryz.prog 43 [.d (.ptr c0 0),.d (.int .i64 a1),.d (.map c2)] H fun v h'=>v=.tup []/\h'=(((H.set c0_1 (some (.tok 2 r.1.Ffaults.l.length))).set c0 (some (.cells (Z4.cg (some c0_1) r.1)))).set c2 (some (.map (seenM r.2)))):=by
 unfold Z61 at hE;refine AC.oW 140 [] Tryz.call43 Tryz.func43 ?_;have ne_c0_c0_1:c0≠c0_1:=fun e_=>by subst e_; simp_all
 have ne_c2_c0_1:c2≠c0_1:=fun e_=>by subst e_; simp_all
 have ne_c2_c0:c2≠c0:=fun e_=>by subst e_; simp_all
 refine AWp.heqA (h':=(((H.set c0_1 (some (.tok 2 a0.Ffaults.l.length))).set c0 (some (.cells (Z4.cg (some c0_1) a0)))).set c2 (some (.map (seenM a2))))) (by funext n_; simp only [Heap.set]; (repeat' split)<;>simp_all) ?_;refine seqR (S Mv (S NP ?_));refine s0 (fieldP (TK rfl) rfl rfl (TK rfl) rfl rfl) rfl ?_;refine s0 (fieldP (TK rfl) rfl rfl (TK rfl) rfl rfl) rfl ?_;refine s0 (loadP (TK rfl) rfl rfl hpG rfl) rfl ?_
 refine S Mv ?_;obtain⟨x2,gx2,hE⟩:=bO hE;refine s0 (idxM (f:=TDef.c) (TK rfl) rfl (TK rfl) rfl rfl rfl gx2) rfl ?_;refine S Ld ?_;refine Sl ?_;refine Sf ?_;refine nil ?_;refine freezeA 6 _ rfl (KA 0 (KA 2 Keeps.nil)) ?_;refine AWp.seqD (Sd Mv (Sd Fv (Sd Ld ?_)));obtain⟨x4,gx4,hE⟩:=bO hE;refine Scd rfl rfl (Z83_walk gx4) ?_;refine Sd NB (Sd Mv (G0d Fv ?_));refine G1d 23 rfl Ld ?_;obtain⟨x5,gx5,hE⟩:=gO hE
 refine Gc1d 24 rfl rfl rfl rfl rfl (fun hC=>Z84_walk (gx5 hC)) ?_;refine Sd PO (Sd Fv (Sd Ld ?_));obtain⟨x6,gx6,hE⟩:=bO hE;refine DOps.sH (callH rfl rfl (Z60_walk gx6 _ hpG hpG)) rfl ?_;refine DOps.Dh (((H.set c0_1 (some (.tok 2 x6.Ffaults.l.length))).set c0 (some (.cells (Z4.cg (some c0_1) x6)))).set c2 (some (.map (seenM a2)))) ?_;refine DOps.nil (by decide +kernel) ?_;refine AWp.seqD (Sd Mv (Sd Mv (Sd Fv (Sd Ld ?_))))
 refine DOps.s0 (lookupSeen (TK rfl) rfl (TK rfl) (TK rfl) rfl rfl rfl rfl hpG) rfl ?_;refine Sd Mv (G0d Fv ?_);refine G1d 36 rfl Ld ?_;obtain⟨x8,gx8,hE⟩:=gO hE;refine Gc1d 37 rfl rfl rfl rfl rfl (fun hC=>Z59_walk (gx8 hC)) ?_;refine Sd PO (Sd Fv (Sd Ld ?_));obtain⟨x9,gx9,hE⟩:=bO hE;refine DOps.sH (callH rfl rfl (Z60_walk gx9 _ hpG hpG)) rfl ?_;refine DOps.Dh (((H.set c0_1 (some (.tok 2 x9.Ffaults.l.length))).set c0 (some (.cells (Z4.cg (some c0_1) x9)))).set c2 (some (.map (seenM a2)))) ?_
 refine DOps.nil (by decide +kernel) ?_;refine seqR (S Mv (S Fv (S Ld ?_)));refine sHn (mapUpdate (TK rfl) rfl (TK rfl) rfl rfl rfl rfl hpG (seen_upd _ _) rfl) rfl rfl ?_;refine hq (((H.set c0_1 (some (.tok 2 x9.Ffaults.l.length))).set c0 (some (.cells (Z4.cg (some c0_1) x9)))).set c2 (some (.map (seenM (insS a2 x2.FName))))) ?_;refine nil ?_;refine seqR (S As (nil ?_));refine seqJH (TA 0 (TA 6 kN)) (fun(z:Bool)=>[(7,.a (.d (.bool z)))]) (fun z=>(((H.set c0_1 (some (.tok 2 x9.Ffaults.l.length))).set c0 (some (.cells (Z4.cg (some c0_1) x9)))).set c2 (some (.map (seenM (insS a2 x2.FName)))))) (fun z=>Z61_j12 a2 x2 x9 z=some r) ?_ ?_
 ·intro K12 hK12;refine seqR (S Fv (S Ld (nil ?_)));refine block ?_;refine seqJH (TA 0 (TA 6 (TA 7 (TA 47 kN)))) (fun(z:Bool)=>[(48,.a (.d (.bool z)))]) (fun z=>(((H.set c0_1 (some (.tok 2 x9.Ffaults.l.length))).set c0 (some (.cells (Z4.cg (some c0_1) x9)))).set c2 (some (.map (seenM (insS a2 x2.FName)))))) (fun z=>Z61_j30 a2 x2 x9 z=some r) ?_ ?_
  ·intro K30 hK30;refine seqR (S BI (S As (nil ?_)));refine cE hE (fun hc35 hE=>?_) (fun hc35 hE=>?_)
   ·refine AWp.skip ?_;exact hK30 _ (decide (x2.FKind=(1:Int))) wA hE
   cases hE
  rintro s48_31 hE;try dsimp only at hE
  unfold Z61_j30 at hE;refine cE hE (fun hc32 hE=>?_) (fun hc32 hE=>?_)
  ·refine region ?_;refine S Fv (S Ld ?_);refine sLen (f:=Z6.c) (s:=x2.FFields) (TK rfl) rfl rfl rfl rfl fun hL33=>?_;refine S BI (S As (nil ?_));exact hK12 _ (decide (((x2.FFields.l.length:Nat):Int)=(0:Int))) wA hE
  cases hE
 rintro s7_13 hE;try dsimp only at hE
 unfold Z61_j12 at hE;refine seqR (S Mv (S Mv (S Fv (S Ld ?_))));obtain⟨x15,gx15,hE⟩:=bO hE;refine sH (callH rfl rfl (Z60_walk gx15 _ hpG hpG)) rfl ?_;refine hq (((H.set c0_1 (some (.tok 2 x15.Ffaults.l.length))).set c0 (some (.cells (Z4.cg (some c0_1) x15)))).set c2 (some (.map (seenM (insS a2 x2.FName))))) ?_;refine nil ?_;refine seqR (S Fv (S Ld (S BS (S Mv (G0 Fv ?_)))));refine G1 77 rfl Ld ?_
 refine G1 78 rfl BS ?_;refine S PO (S Mv (G0 Fv ?_));refine G1 82 rfl Ld ?_;refine G1 83 rfl BS ?_;refine S PO (S As (nil ?_));refine seqR (S Mv (S Mv (S Mv (G0 Fv ?_))));refine G1 89 rfl Ld ?_;refine G1 90 rfl BI ?_;refine S PA (S Mv (G0 Fv ?_));refine G1 94 rfl Ld ?_;refine G1 95 rfl BI ?_;refine S PO (S Mv (G0 Fv ?_));refine G1 99 rfl Ld ?_;refine G1 100 rfl BI ?_;refine S PO (S Fv (S Ld ?_));obtain⟨x18,gx18,hE⟩:=bO hE
 refine sH (callH rfl rfl (Z60_walk gx18 _ hpG hpG)) rfl ?_;refine hq (((H.set c0_1 (some (.tok 2 x18.Ffaults.l.length))).set c0 (some (.cells (Z4.cg (some c0_1) x18)))).set c2 (some (.map (seenM (insS a2 x2.FName))))) ?_;refine nil ?_;refine AWp.seqD (Sd Mv (Sd Fv (Sd Ld (Sd BI (Sd Mv (G0d Mv (G0d Ld ?_)))))));obtain⟨x20,gx20,hE⟩:=gO hE;refine DOps.gC rfl rfl (fun hC=>ungdA (k:=111) rfl (ungdA (k:=112) rfl (callR rfl rfl (Z64_walk (gx20 hC) _ hpG)))) rfl ?_
 refine Sd PA (Sd Fv (Sd Ld ?_));obtain⟨x21,gx21,hE⟩:=bO hE;refine DOps.sH (callH rfl rfl (Z60_walk gx21 _ hpG hpG)) rfl ?_;refine DOps.Dh (((H.set c0_1 (some (.tok 2 x21.Ffaults.l.length))).set c0 (some (.cells (Z4.cg (some c0_1) x21)))).set c2 (some (.map (seenM (insS a2 x2.FName))))) ?_;refine DOps.nil (by decide +kernel) ?_;refine seqR (S Fv (S Ld (nil ?_)));refine block ?_;refine seqJH (TA 0 (TA 6 (TA 119 kN))) (fun(z:Bool)=>[(120,.a (.d (.bool z)))]) (fun z=>(((H.set c0_1 (some (.tok 2 x21.Ffaults.l.length))).set c0 (some (.cells (Z4.cg (some c0_1) x21)))).set c2 (some (.map (seenM (insS a2 x2.FName)))))) (fun z=>Z61_j23 a2 x2 x21 z=some r) ?_ ?_
 ·intro K23 hK23;refine seqR (S BI (S As (nil ?_)));refine cE hE (fun hc28 hE=>?_) (fun hc28 hE=>?_)
  ·refine AWp.skip ?_;exact hK23 _ (decide (x2.FKind=(1:Int))) wA hE
  cases hE
 rintro s120_24 hE;try dsimp only at hE
 unfold Z61_j23 at hE;refine cE hE (fun hc25 hE=>?_) (fun hc25 hE=>?_)
 ·refine region ?_;refine S Mv (S Ld ?_);obtain⟨x26,gx26,hE⟩:=bO hE;refine sH (callH rfl rfl (Z62_walk gx26 _ hpG hpG)) rfl ?_;refine hq (((H.set c0_1 (some (.tok 2 x26.Ffaults.l.length))).set c0 (some (.cells (Z4.cg (some c0_1) x26)))).set c2 (some (.map (seenM (insS a2 x2.FName))))) ?_;refine nil ?_;repeat (first|refine xBlock_normal ?_|refine xThen_exit ?_|refine xBlock_exit ?_)
  obtain rfl:=oJ hE;refine retQ.normalF (((H.set c0_1 (some (.tok 2 x26.Ffaults.l.length))).set c0 (some (.cells (Z4.cg (some c0_1) x26)))).set c2 (some (.map (seenM (insS a2 x2.FName))))) (xs:=[]) rfl ⟨rfl,rfl⟩ ?_;exact(fun _ _ h=>h)
 cases hE
def Z53_j10  (y11_id12_3:Z4):Option (Sl Z5):=some y11_id12_3.Ffaults
def Z53_j7 (a0:TDoc) (a1:Bool)  (y8_id12_3:Z4) (y9_id13_6:(List Bs)):Option (Sl Z5):=(Z55 a0 ([81,117,101,114,121]:Bs)).bind fun x14=>bif (a1&&(!x14.2)) then(none) else(Z53_j10   y8_id12_3)
def Z53_l19 (a0:TDoc) (a1:Bool) :Nat->Nat->Z4->(List Bs)->Option (Sl Z5)
 | 0,_,_,_=>none
 | n19+1,s17_20,y21_id12_3,y22_id13_6=>bif (decide (((s17_20:Nat):Int)<((a0.FDefs.l.length:Nat):Int))) then((Z61 y21_id12_3 ((s17_20:Nat):Int) y22_id13_6).bind fun x28=>(Z53_l19 a0 a1 n19) (s17_20+1) x28.1 x28.2) else(Z53_j7 a0 a1  y21_id12_3 y22_id13_6)
def Z53 (a0:TDoc) (a1:Bool):Option (Sl Z5):=Z53_l19 a0 a1 (a0.FDefs.l.length+1) 0 (Z4.mk a0 (Sl.nil:Sl Z5)) ([]:List Bs)
theorem Z53_walk {a0:TDoc}{a1:Bool}{r:Sl Z5}(hE:Z53 a0 a1=some r) (H:Heap) :AC Tryz.prog 32 [.agg (TDoc.c a0),.d (.bool a1)] H fun v h'=>v=.a (.d (Sl.d 2 Z5.c none r))/\h'=H:=by
 unfold Z53 at hE;refine AC.oW 41 [.tmp 4] Tryz.call32 Tryz.func32 ?_;refine seqR (S BX ?_);refine s0 (assignNil (k':=2) rfl) rfl ?_;refine nil ?_;refine seqR (S Ld (S BU ?_));refine AOps.tok 2 fun tk12_4 htk12_4=>?_;refine sE (StepE.boxO rfl) rfl (fun _ _ _ ⟨id12_3,hid12_3,e1,e2,e3⟩=>?_); subst e1 e2 e3;obtain⟨ne_id12_3_tk12_4,hid12_3⟩:=Heap.set_fresh hid12_3;refine AOps.recell id12_3 _ hpG (fun j w cs hh hx=>tok_cell 1 2 2 hh (t:=tk12_4) hpG hx rfl) ?_
 refine hq ((H.set tk12_4 (some (.tok 2 0))).set id12_3 (some (.cells (Z4.cg (some tk12_4) (Z4.mk a0 (Sl.nil:Sl Z5)))))) ?_;refine S As (nil ?_);refine seqR ?_;refine sE StepE.makeMap rfl (fun _ _ _ ⟨id13_6,hid13_6,e1,e2,e3⟩=>?_); subst e1 e2 e3;obtain⟨ne_id13_6_id12_3,hid13_6⟩:=Heap.set_fresh hid13_6;obtain⟨ne_id13_6_tk12_4,hid13_6⟩:=Heap.set_fresh hid13_6;refine hq (((H.set tk12_4 (some (.tok 2 0))).set id12_3 (some (.cells (Z4.cg (some tk12_4) (Z4.mk a0 (Sl.nil:Sl Z5)))))).set id13_6 (some (.map (seenM ([]:List Bs))))) ?_
 refine S As (nil ?_);refine seqJH (TA 1 (TA 2 (TA 5 kN))) (fun(z:Z4×(List Bs))=>[]) (fun z=>(((H.set tk12_4 (some (.tok 2 z.1.Ffaults.l.length))).set id12_3 (some (.cells (Z4.cg (some tk12_4) z.1)))).set id13_6 (some (.map (seenM z.2))))) (fun z=>Z53_j7 a0 a1 z.1 z.2=some r) ?_ ?_
 ·intro K7 hK7;refine seqR (S Fv (S Ld ?_));refine sLen (f:=TDef.c) (s:=a0.FDefs) (TK rfl) rfl rfl rfl rfl fun hL18=>?_;refine S Mv (nil ?_);refine block ?_;refine loopH (TA 1 (TA 2 (TA 5 (TA 6 (TA 16 kN))))) (fun(z:Nat×Nat×Z4×(List Bs))=>[(17,.a (.d (.int .i64 ((z.2.1:Nat):Int))))]) (fun z=>(((H.set tk12_4 (some (.tok 2 z.2.2.1.Ffaults.l.length))).set id12_3 (some (.cells (Z4.cg (some tk12_4) z.2.2.1)))).set id13_6 (some (.map (seenM z.2.2.2))))) (fun z=>z.1) (fun z=>Z53_l19 a0 a1 z.1 z.2.1 z.2.2.1 z.2.2.2=some r) ((a0.FDefs.l.length+1),0,(Z4.mk a0 (Sl.nil:Sl Z5)),([]:List Bs)) hE wA ?_
  rintro ⟨n19,s17_20,y21_id12_3,y22_id13_6⟩ hE K19 hK19;try dsimp only at hE
  cases n19 with
  | zero=>cases hE
  | succ n19 =>
    rw [Z53_l19] at hE;refine seqR (S BI (nil ?_));refine seqK fun K24 hK24=>?_;refine cE hE (fun hc25 hE=>?_) (fun hc25 hE=>?_)
    ·try dsimp only at hc25
     have hf25:=oD hc25;refine sk hK24 ?_;clear hK24 K24;refine seqK fun K26 hK26=>?_;refine block ?_;refine seqR (S Mv (S As (nil ?_)));refine region ?_;refine S Mv (S Mv (S Mv ?_));obtain⟨x28,gx28,hE⟩:=bO hE;refine sH (callH rfl rfl (Z61_walk gx28 _ hpG hpG hpG)) rfl ?_;refine hq (((H.set tk12_4 (some (.tok 2 x28.1.Ffaults.l.length))).set id12_3 (some (.cells (Z4.cg (some tk12_4) x28.1)))).set id13_6 (some (.map (seenM x28.2)))) ?_
     refine nil ?_;refine hK26 _ ?_;clear hK26 K26;refine region ?_;refine SI ?_;refine S Mv (nil ?_);exact hK19 _ (n19,(s17_20+1),x28.1,x28.2) wA hE (nS _)
    refine AWp.exit ?_;exact hK7 _ (y21_id12_3,y22_id13_6) wA hE
 rintro ⟨y8_id12_3,y9_id13_6⟩ hE;try dsimp only at hE
 unfold Z53_j7 at hE;refine seqJH (TA 5 kN) (fun(z:Z4)=>[]) (fun z=>(((H.set tk12_4 (some (.tok 2 z.Ffaults.l.length))).set id12_3 (some (.cells (Z4.cg (some tk12_4) z)))).set id13_6 (some (.map (seenM y9_id13_6))))) (fun z=>Z53_j10 z=some r) ?_ ?_
 ·intro K10 hK10;refine seqR (S Ld ?_);obtain⟨x14,gx14,hE⟩:=bO hE;refine Sc rfl rfl (Z55_walk gx14) ?_;refine S Mv (S EX (S EX ?_));refine Sl ?_;refine Sf ?_;refine S As (nil ?_);refine freezeA 8 _ rfl (KA 1 (KA 5 (KA 9 Keeps.nil))) ?_;refine seqR (S Mv (S Mv (G0 Mv ?_)));refine G1 32 rfl NB ?_;refine S PA (nil ?_);refine cE hE (fun hc16 hE=>?_) (fun hc16 hE=>?_)
  ·cases hE
  refine AWp.skip ?_;exact hK10 _ y8_id12_3 wA hE
 rintro y11_id12_3 hE;try dsimp only at hE
 unfold Z53_j10 at hE;refine seqR (S Mv (S NP ?_));refine s0 (fieldP (TK rfl) rfl rfl (TK rfl) rfl rfl) rfl ?_;refine s0 (loadP (TK rfl) rfl rfl hpG rfl) rfl ?_;refine S As (nil ?_);refine AWp.dropTok 4 rfl ?_;refine AWp.ret ?_;repeat (first|refine xBlock_ret ?_|refine xThen_ret ?_)
 obtain rfl:=oJ hE;refine retQ.retF H rfl ⟨rfl,rfl⟩ ?_;intro id_ o_ he_;have e_tk12_4:id_≠tk12_4:=fun e_=>by subst e_; simp_all [Heap.set]
 have e_id12_3:id_≠id12_3:=fun e_=>by subst e_; simp_all [Heap.set]
 have e_id13_6:id_≠id13_6:=fun e_=>by subst e_; simp_all [Heap.set]
 rw [<- he_];simp only [Heap.set] at he_ ⊢
 (repeat' split)<;>simp_all
end Go.Proofs

namespace Go.Proofs
open Go Go.Ab
open AOps Cert AWp Keeps KeepsT
variable {lou:Lou}
def Z16_l4 (a1:TDef) :Nat->Nat->Z0->Option Z0
 | 0,_,_=>none
 | n4+1,s12_5,y6_c0=>bif (decide (((s12_5:Nat):Int)<((a1.FImplements.l.length:Nat):Int))) then(none) else(some y6_c0)
def Z16 (a0:Z0) (a1:TDef):Option Z0:=Z16_l4 a1 (a1.FImplements.l.length+1) 0 a0
theorem Z16_walk {a0:Z0}{a1:TDef}{c0 c0_1:Nat}{r:Z0}(hE:Z16 a0 a1=some r) (H:Heap) (hc0:H c0=some (.cells (Z0.cg (some c0_1) a0))) (ht0_1:H c0_1=some (.tok 2 a0.Fout.l.length)):AC Tryz.prog 45 [.d (.ptr c0 0),.agg (TDef.c a1)] H fun v h'=>v=.tup []/\h'=((H.set c0_1 (some (.tok 2 r.Fout.l.length))).set c0 (some (.cells (Z0.cg (some c0_1) r)))):=by
 unfold Z16 at hE;refine AC.oW 51 [] Tryz.call45 Tryz.func45 ?_;have ne_c0_c0_1:c0≠c0_1:=fun e_=>by subst e_; simp_all
 refine AWp.heqA (h':=((H.set c0_1 (some (.tok 2 a0.Fout.l.length))).set c0 (some (.cells (Z0.cg (some c0_1) a0))))) (by funext n_; simp only [Heap.set]; (repeat' split)<;>simp_all) ?_;refine seqR (S BX (nil ?_));refine seqR (S Fv (S Ld ?_));refine sLen (f:=strE) (s:=a1.FImplements) (TK rfl) rfl rfl rfl rfl fun hL3=>?_;refine S Mv (nil ?_);refine block ?_;refine loopH (TA 0 (TA 3 (TA 10 (TA 11 kN)))) (fun(z:Nat×Nat×Z0)=>[(12,.a (.d (.int .i64 ((z.2.1:Nat):Int))))]) (fun z=>((H.set c0_1 (some (.tok 2 z.2.2.Fout.l.length))).set c0 (some (.cells (Z0.cg (some c0_1) z.2.2))))) (fun z=>z.1) (fun z=>Z16_l4 a1 z.1 z.2.1 z.2.2=some r) ((a1.FImplements.l.length+1),0,a0) hE wA ?_
 rintro ⟨n4,s12_5,y6_c0⟩ hE K4 hK4;try dsimp only at hE
 cases n4 with
 | zero=>cases hE
 | succ n4 =>
   rw [Z16_l4] at hE;refine seqR (S BI (nil ?_));refine seqK fun K8 hK8=>?_;refine cE hE (fun hc9 hE=>?_) (fun hc9 hE=>?_)
   ·try dsimp only at hc9
    have hf9:=oD hc9;cases hE
   refine AWp.exit ?_;repeat (first|refine xBlock_normal ?_|refine xThen_exit ?_|refine xBlock_exit ?_)
   obtain rfl:=oJ hE;refine retQ.normalF ((H.set c0_1 (some (.tok 2 y6_c0.Fout.l.length))).set c0 (some (.cells (Z0.cg (some c0_1) y6_c0)))) (xs:=[]) rfl ⟨rfl,rfl⟩ ?_;exact(fun _ _ h=>h)
end Go.Proofs

namespace Go.Proofs
open Go Go.Ab
open AOps Cert AWp Keeps KeepsT
variable {lou:Lou}
def Z10_j5  (y6_id11_3:Z0):Option (Sl Z5):=some y6_id11_3.Fout
def Z10_j16 (s15_11:Nat) (k_next_10:Nat->Z0->Option (Sl Z5)) (y17_id11_3:Z0):Option (Sl Z5):=k_next_10 (s15_11+1) y17_id11_3
def Z10_l10 (a0:TDoc) :Nat->Nat->Z0->Option (Sl Z5)
 | 0,_,_=>none
 | n10+1,s15_11,y12_id11_3=>bif (decide (((s15_11:Nat):Int)<((a0.FDefs.l.length:Nat):Int))) then((a0.FDefs.l[s15_11]?).bind fun x19=>bif (decide (x19.FKind=(1:Int))) then((Z16 y12_id11_3 x19).bind fun x23=>Z10_j16 s15_11 ((Z10_l10 a0 n10)) x23) else(none)) else(Z10_j5   y12_id11_3)
def Z10 (a0:TDoc):Option (Sl Z5):=Z10_l10 a0 (a0.FDefs.l.length+1) 0 (Z0.mk a0 (Sl.nil:Sl Z5))
theorem Z10_tok {a0:TDoc}{r:Sl Z5}(hE:Z10 a0=some r) (H:Heap){tk0:Nat}(htk0:H tk0=some (.tok 2 0)):AC Tryz.prog 33 [.agg (TDoc.c a0)] H fun v h'=>v=.a (.d (Sl.d 2 Z5.c (some tk0) r))/\h'=H.set tk0 (some (.tok 2 r.l.length)):=by
 unfold Z10 at hE;refine AC.oW 67 [.tmp 2] Tryz.call33 Tryz.func33 ?_;refine AWp.heqA (h':=(H.set tk0 (some (.tok 2 0)))) (by funext n_; simp only [Heap.set]; (repeat' split)<;>simp_all) ?_;refine seqR (S BX (S As (nil ?_)));refine seqR (S Ld (S BU ?_));refine sE (StepE.boxO rfl) rfl (fun _ _ _ ⟨id11_3,hid11_3,e1,e2,e3⟩=>?_); subst e1 e2 e3;obtain⟨ne_id11_3_tk0,hid11_3⟩:=Heap.set_fresh hid11_3
 refine AOps.recell id11_3 _ hpG (fun j w cs hh hx=>tok_cell 1 2 2 hh (t:=tk0) hpG hx rfl) ?_;refine hq ((H.set tk0 (some (.tok 2 0))).set id11_3 (some (.cells (Z0.cg (some tk0) (Z0.mk a0 (Sl.nil:Sl Z5)))))) ?_;refine S As (nil ?_);refine seqJH (TA 3 kN) (fun(z:Z0)=>[]) (fun z=>((H.set tk0 (some (.tok 2 z.Fout.l.length))).set id11_3 (some (.cells (Z0.cg (some tk0) z))))) (fun z=>Z10_j5 z=some r) ?_ ?_
 ·intro K5 hK5;refine seqR (S Fv (S Ld ?_));refine sLen (f:=TDef.c) (s:=a0.FDefs) (TK rfl) rfl rfl rfl rfl fun hL9=>?_;refine S Mv (nil ?_);refine block ?_;refine loopH (TA 3 (TA 13 (TA 14 kN))) (fun(z:Nat×Nat×Z0)=>[(15,.a (.d (.int .i64 ((z.2.1:Nat):Int))))]) (fun z=>((H.set tk0 (some (.tok 2 z.2.2.Fout.l.length))).set id11_3 (some (.cells (Z0.cg (some tk0) z.2.2))))) (fun z=>z.1) (fun z=>Z10_l10 a0 z.1 z.2.1 z.2.2=some r) ((a0.FDefs.l.length+1),0,(Z0.mk a0 (Sl.nil:Sl Z5))) hE wA ?_
  rintro ⟨n10,s15_11,y12_id11_3⟩ hE K10 hK10;try dsimp only at hE
  cases n10 with
  | zero=>cases hE
  | succ n10 =>
    rw [Z10_l10] at hE;refine seqR (S BI (nil ?_));refine seqK fun K14 hK14=>?_;refine cE hE (fun hc15 hE=>?_) (fun hc15 hE=>?_)
    ·try dsimp only at hc15
     have hf15:=oD hc15;refine sk hK14 ?_;clear hK14 K14;refine seqJH (TA 3 (TA 13 (TA 14 (TA 15 kN)))) (fun(z:Z0)=>[]) (fun z=>((H.set tk0 (some (.tok 2 z.Fout.l.length))).set id11_3 (some (.cells (Z0.cg (some tk0) z))))) (fun z=>Z10_j16 s15_11 ((Z10_l10 a0 n10)) z=some r) ?_ ?_
     ·intro K16 hK16;refine block ?_;refine seqR ?_;obtain⟨x19,gx19,hE⟩:=bO hE;refine S (ix TDef.c s15_11 gx19) (S Ld ?_);refine Sl ?_;refine Sf ?_;refine nil ?_;refine freezeA 5 _ rfl (KA 3 (KA 13 (KA 14 (KA 15 Keeps.nil)))) ?_;refine seqR (S Fv (S Ld (nil ?_)));refine block ?_;refine seqR (S BI (S As (nil ?_)));refine cE hE (fun hc22 hE=>?_) (fun hc22 hE=>?_)
      ·refine region ?_;refine S Mv (S Ld ?_);obtain⟨x23,gx23,hE⟩:=bO hE;refine sH (callH rfl rfl (Z16_walk gx23 _ hpG hpG)) rfl ?_;refine hq ((H.set tk0 (some (.tok 2 x23.Fout.l.length))).set id11_3 (some (.cells (Z0.cg (some tk0) x23)))) ?_;refine nil ?_;exact hK16 _ x23 wA hE
      cases hE
     rintro y17_id11_3 hE;try dsimp only at hE
     unfold Z10_j16 at hE;refine region ?_;refine SI ?_;refine S Mv (nil ?_);exact hK10 _ (n10,(s15_11+1),y17_id11_3) wA hE (nS _)
    refine AWp.exit ?_;exact hK5 _ y12_id11_3 wA hE
 rintro y6_id11_3 hE;try dsimp only at hE
 unfold Z10_j5 at hE;refine seqR (S Mv (S NP ?_));refine s0 (fieldP (TK rfl) rfl rfl (TK rfl) rfl rfl) rfl ?_;refine s0 (loadP (TK rfl) rfl rfl hpG rfl) rfl ?_;refine S As (nil ?_);refine AWp.ret ?_;repeat (first|refine xBlock_ret ?_|refine xThen_ret ?_)
 obtain rfl:=oJ hE;refine retQ.retF (H.set tk0 (some (.tok 2 y6_id11_3.Fout.l.length))) rfl ⟨rfl,rfl⟩ ?_;intro id_ o_ he_;have e_id11_3:id_≠id11_3:=fun e_=>by subst e_; simp_all [Heap.set]
 rw [<- he_];simp only [Heap.set] at he_ ⊢
 (repeat' split)<;>simp_all
def Z18_j6  (y7_id3_3:(Sl Z5)):Option (Sl Z5):=some y7_id3_3
def Z18_j17 (s17_12:Nat) (k_next_11:Nat->(Sl Z5)->Option (Sl Z5)) (y18_id3_3:(Sl Z5)):Option (Sl Z5):=k_next_11 (s17_12+1) y18_id3_3
def Z18_l25 (s17_12:Nat) (x20:TDef) (k_next_11:Nat->(Sl Z5)->Option (Sl Z5)):Nat->Nat->(Sl Z5)->Option (Sl Z5)
 | 0,_,_=>none
 | n25+1,s54_26,y27_id3_3=>bif (decide (((s54_26:Nat):Int)<((x20.FInputs.l.length:Nat):Int))) then(none) else(Z18_j17 s17_12 k_next_11 y27_id3_3)
def Z18_j21 (s17_12:Nat) (x20:TDef) (k_next_11:Nat->(Sl Z5)->Option (Sl Z5)) (y22_id3_3:(Sl Z5)):Option (Sl Z5):=Z18_l25 s17_12 x20 k_next_11 (x20.FInputs.l.length+1) 0 y22_id3_3
def Z18_j39 (s24_34:Nat) (k_next_33:Nat->(Sl Z5)->Option (Sl Z5)) (y40_id3_3:(Sl Z5)):Option (Sl Z5):=k_next_33 (s24_34+1) y40_id3_3
def Z18_l45 (s24_34:Nat) (x42:Z6) (k_next_33:Nat->(Sl Z5)->Option (Sl Z5)):Nat->Nat->(Sl Z5)->Option (Sl Z5)
 | 0,_,_=>none
 | n45+1,s31_46,y47_id3_3=>bif (decide (((s31_46:Nat):Int)<((x42.FArgs.l.length:Nat):Int))) then(none) else(Z18_j39 s24_34 k_next_33 y47_id3_3)
def Z18_l33 (s17_12:Nat) (x20:TDef) (k_next_11:Nat->(Sl Z5)->Option (Sl Z5)):Nat->Nat->(Sl Z5)->Option (Sl Z5)
 | 0,_,_=>none
 | n33+1,s24_34,y35_id3_3=>bif (decide (((s24_34:Nat):Int)<((x20.FFields.l.length:Nat):Int))) then((x20.FFields.l[s24_34]?).bind fun x42=>Z18_l45 s24_34 x42 ((Z18_l33 s17_12 x20 k_next_11 n33)) (x42.FArgs.l.length+1) 0 y35_id3_3) else(Z18_j21 s17_12 x20 k_next_11 y35_id3_3)
def Z18_l11 (a0:TDoc) :Nat->Nat->(Sl Z5)->Option (Sl Z5)
 | 0,_,_=>none
 | n11+1,s17_12,y13_id3_3=>bif (decide (((s17_12:Nat):Int)<((a0.FDefs.l.length:Nat):Int))) then((a0.FDefs.l[s17_12]?).bind fun x20=>Z18_l33 s17_12 x20 ((Z18_l11 a0 n11)) (x20.FFields.l.length+1) 0 y13_id3_3) else(Z18_j6   y13_id3_3)
def Z18 (a0:TDoc):Option (Sl Z5):=Z18_l11 a0 (a0.FDefs.l.length+1) 0 (Sl.nil:Sl Z5)
theorem Z18_walk {a0:TDoc}{r:Sl Z5}(hE:Z18 a0=some r) (H:Heap) :AC Tryz.prog 34 [.agg (TDoc.c a0)] H fun v h'=>v=.a (.d (Sl.d 2 Z5.c none r))/\h'=H:=by
 unfold Z18 at hE;refine AC.oW 70 [.tmp 2] Tryz.call34 Tryz.func34 ?_;refine seqR (S BX ?_);refine s0 (assignNil (k':=2) rfl) rfl ?_;refine nil ?_;refine seqR ?_;refine AOps.tok 2 fun tk3_4 htk3_4=>?_;refine sE (StepE.allocO (TK rfl) rfl) rfl (fun _ _ _ ⟨id3_3,hid3_3,e1,e2,e3⟩=>?_); subst e1 e2 e3;obtain⟨ne_id3_3_tk3_4,hid3_3⟩:=Heap.set_fresh hid3_3;refine AOps.recell id3_3 _ hpG (fun j w cs hh hx=>tok_cell 0 2 2 hh (t:=tk3_4) hpG hx rfl) ?_
 refine hq ((H.set tk3_4 (some (.tok 2 0))).set id3_3 (some (.cells ([Sl.d 2 Z5.c (some tk3_4) (Sl.nil:Sl Z5)])))) ?_;refine nil ?_;refine seqR ?_;refine s0 (makeFunc rfl) rfl ?_;refine S As (nil ?_);refine seqJH (TA 3 kN) (fun(z:(Sl Z5))=>[]) (fun z=>((H.set tk3_4 (some (.tok 2 z.l.length))).set id3_3 (some (.cells ([Sl.d 2 Z5.c (some tk3_4) z]))))) (fun z=>Z18_j6 z=some r) ?_ ?_
 ·intro K6 hK6;refine seqR (S Fv (S Ld ?_));refine sLen (f:=TDef.c) (s:=a0.FDefs) (TK rfl) rfl rfl rfl rfl fun hL10=>?_;refine S Mv (nil ?_);refine block ?_;refine loopH (TA 3 (TA 4 (TA 15 (TA 16 kN)))) (fun(z:Nat×Nat×(Sl Z5))=>[(17,.a (.d (.int .i64 ((z.2.1:Nat):Int))))]) (fun z=>((H.set tk3_4 (some (.tok 2 z.2.2.l.length))).set id3_3 (some (.cells ([Sl.d 2 Z5.c (some tk3_4) z.2.2]))))) (fun z=>z.1) (fun z=>Z18_l11 a0 z.1 z.2.1 z.2.2=some r) ((a0.FDefs.l.length+1),0,(Sl.nil:Sl Z5)) hE wA ?_
  rintro ⟨n11,s17_12,y13_id3_3⟩ hE K11 hK11;try dsimp only at hE
  cases n11 with
  | zero=>cases hE
  | succ n11 =>
    rw [Z18_l11] at hE;refine seqR (S BI (nil ?_));refine seqK fun K15 hK15=>?_;refine cE hE (fun hc16 hE=>?_) (fun hc16 hE=>?_)
    ·try dsimp only at hc16
     have hf16:=oD hc16;refine sk hK15 ?_;clear hK15 K15;refine seqJH (TA 3 (TA 4 (TA 15 (TA 16 (TA 17 kN))))) (fun(z:(Sl Z5))=>[]) (fun z=>((H.set tk3_4 (some (.tok 2 z.l.length))).set id3_3 (some (.cells ([Sl.d 2 Z5.c (some tk3_4) z]))))) (fun z=>Z18_j17 s17_12 ((Z18_l11 a0 n11)) z=some r) ?_ ?_
     ·intro K17 hK17;refine block ?_;refine seqR ?_;obtain⟨x20,gx20,hE⟩:=bO hE;refine S (ix TDef.c s17_12 gx20) (S Ld ?_);refine Sl ?_;refine Sf ?_;refine nil ?_;refine freezeA 6 _ rfl (KA 3 (KA 4 (KA 15 (KA 16 (KA 17 Keeps.nil))))) ?_;refine seqJH (TA 3 (TA 4 (TA 6 (TA 15 (TA 16 (TA 17 kN)))))) (fun(z:(Sl Z5))=>[]) (fun z=>((H.set tk3_4 (some (.tok 2 z.l.length))).set id3_3 (some (.cells ([Sl.d 2 Z5.c (some tk3_4) z]))))) (fun z=>Z18_j21 s17_12 x20 ((Z18_l11 a0 n11)) z=some r) ?_ ?_
      ·intro K21 hK21;refine seqR (S Fv (S Ld ?_));refine sLen (f:=Z6.c) (s:=x20.FFields) (TK rfl) rfl rfl rfl rfl fun hL32=>?_;refine S Mv (nil ?_);refine block ?_;refine loopH (TA 3 (TA 4 (TA 6 (TA 15 (TA 16 (TA 17 (TA 22 (TA 23 kN)))))))) (fun(z:Nat×Nat×(Sl Z5))=>[(24,.a (.d (.int .i64 ((z.2.1:Nat):Int))))]) (fun z=>((H.set tk3_4 (some (.tok 2 z.2.2.l.length))).set id3_3 (some (.cells ([Sl.d 2 Z5.c (some tk3_4) z.2.2]))))) (fun z=>z.1) (fun z=>Z18_l33 s17_12 x20 ((Z18_l11 a0 n11)) z.1 z.2.1 z.2.2=some r) ((x20.FFields.l.length+1),0,y13_id3_3) hE wA ?_
       rintro ⟨n33,s24_34,y35_id3_3⟩ hE K33 hK33;try dsimp only at hE
       cases n33 with
       | zero=>cases hE
       | succ n33 =>
         rw [Z18_l33] at hE;refine seqR (S BI (nil ?_));refine seqK fun K37 hK37=>?_;refine cE hE (fun hc38 hE=>?_) (fun hc38 hE=>?_)
         ·try dsimp only at hc38
          have hf38:=oD hc38;refine sk hK37 ?_;clear hK37 K37;refine seqJH (TA 3 (TA 4 (TA 6 (TA 15 (TA 16 (TA 17 (TA 22 (TA 23 (TA 24 kN))))))))) (fun(z:(Sl Z5))=>[]) (fun z=>((H.set tk3_4 (some (.tok 2 z.l.length))).set id3_3 (some (.cells ([Sl.d 2 Z5.c (some tk3_4) z]))))) (fun z=>Z18_j39 s24_34 ((Z18_l33 s17_12 x20 ((Z18_l11 a0 n11)) n33)) z=some r) ?_ ?_
          ·intro K39 hK39;refine block ?_;refine seqR ?_;obtain⟨x42,gx42,hE⟩:=bO hE;refine S (ix Z6.c s24_34 gx42) (S Ld ?_);refine Sl ?_;refine Sf ?_;refine nil ?_;refine freezeA 8 _ rfl (KA 3 (KA 4 (KA 6 (KA 15 (KA 16 (KA 17 (KA 22 (KA 23 (KA 24 Keeps.nil))))))))) ?_;refine seqR (S Fv (S Ld ?_));refine sLen (f:=Z7.c) (s:=x42.FArgs) (TK rfl) rfl rfl rfl rfl fun hL44=>?_;refine S Mv (nil ?_);refine block ?_
           refine loopH (TA 3 (TA 4 (TA 6 (TA 8 (TA 15 (TA 16 (TA 17 (TA 22 (TA 23 (TA 24 (TA 29 (TA 30 kN)))))))))))) (fun(z:Nat×Nat×(Sl Z5))=>[(31,.a (.d (.int .i64 ((z.2.1:Nat):Int))))]) (fun z=>((H.set tk3_4 (some (.tok 2 z.2.2.l.length))).set id3_3 (some (.cells ([Sl.d 2 Z5.c (some tk3_4) z.2.2]))))) (fun z=>z.1) (fun z=>Z18_l45 s24_34 x42 ((Z18_l33 s17_12 x20 ((Z18_l11 a0 n11)) n33)) z.1 z.2.1 z.2.2=some r) ((x42.FArgs.l.length+1),0,y35_id3_3) hE wA ?_
           rintro ⟨n45,s31_46,y47_id3_3⟩ hE K45 hK45;try dsimp only at hE
           cases n45 with
           | zero=>cases hE
           | succ n45 =>
             rw [Z18_l45] at hE;refine seqR (S BI (nil ?_));refine seqK fun K49 hK49=>?_;refine cE hE (fun hc50 hE=>?_) (fun hc50 hE=>?_)
             ·try dsimp only at hc50
              have hf50:=oD hc50;cases hE
             refine AWp.exit ?_;exact hK39 _ y47_id3_3 wA hE
          rintro y40_id3_3 hE;try dsimp only at hE
          unfold Z18_j39 at hE;refine region ?_;refine SI ?_;refine S Mv (nil ?_);exact hK33 _ (n33,(s24_34+1),y40_id3_3) wA hE (nS _)
         refine AWp.exit ?_;exact hK21 _ y35_id3_3 wA hE
      rintro y22_id3_3 hE;try dsimp only at hE
      unfold Z18_j21 at hE;refine seqR (S Fv (S Ld ?_));refine sLen (f:=Z7.c) (s:=x20.FInputs) (TK rfl) rfl rfl rfl rfl fun hL24=>?_;refine S Mv (nil ?_);refine block ?_;refine loopH (TA 3 (TA 4 (TA 6 (TA 15 (TA 16 (TA 17 (TA 52 (TA 53 kN)))))))) (fun(z:Nat×Nat×(Sl Z5))=>[(54,.a (.d (.int .i64 ((z.2.1:Nat):Int))))]) (fun z=>((H.set tk3_4 (some (.tok 2 z.2.2.l.length))).set id3_3 (some (.cells ([Sl.d 2 Z5.c (some tk3_4) z.2.2]))))) (fun z=>z.1) (fun z=>Z18_l25 s17_12 x20 ((Z18_l11 a0 n11)) z.1 z.2.1 z.2.2=some r) ((x20.FInputs.l.length+1),0,y22_id3_3) hE wA ?_
      rintro ⟨n25,s54_26,y27_id3_3⟩ hE K25 hK25;try dsimp only at hE
      cases n25 with
      | zero=>cases hE
      | succ n25 =>
        rw [Z18_l25] at hE;refine seqR (S BI (nil ?_));refine seqK fun K29 hK29=>?_;refine cE hE (fun hc30 hE=>?_) (fun hc30 hE=>?_)
        ·try dsimp only at hc30
         have hf30:=oD hc30;cases hE
        refine AWp.exit ?_;exact hK17 _ y27_id3_3 wA hE
     rintro y18_id3_3 hE;try dsimp only at hE
     unfold Z18_j17 at hE;refine region ?_;refine SI ?_;refine S Mv (nil ?_);exact hK11 _ (n11,(s17_12+1),y18_id3_3) wA hE (nS _)
    refine AWp.exit ?_;exact hK6 _ y13_id3_3 wA hE
 rintro y7_id3_3 hE;try dsimp only at hE
 unfold Z18_j6 at hE;refine seqR ?_;refine s0 (loadP (TK rfl) rfl rfl hpG rfl) rfl ?_;refine S As (nil ?_);refine AWp.dropTok 2 rfl ?_;refine AWp.ret ?_;repeat (first|refine xBlock_ret ?_|refine xThen_ret ?_)
 obtain rfl:=oJ hE;refine retQ.retF H rfl ⟨rfl,rfl⟩ ?_;intro id_ o_ he_;have e_tk3_4:id_≠tk3_4:=fun e_=>by subst e_; simp_all [Heap.set]
 have e_id3_3:id_≠id3_3:=fun e_=>by subst e_; simp_all [Heap.set]
 rw [<- he_];simp only [Heap.set] at he_ ⊢
 (repeat' split)<;>simp_all
def Z90 (a0:TDoc):Option (Sl Z5):=(Z53 a0 true).bind fun x4=>bif (decide ((0:Int)<((x4.l.length:Nat):Int))) then(none) else((Z10 a0).bind fun x9=>(Z18 a0).bind fun x10=>(appC 24 x9 x10).bind fun x11=>some x11)
theorem Z90_walk {a0:TDoc}{r:Sl Z5}(hE:Z90 a0=some r) (H:Heap) :AC Tryz.prog 17 [.agg (TDoc.c a0)] H fun v h'=>v=.a (.d (Sl.d 2 Z5.c none r))/\h'=H:=by
 unfold Z90 at hE;refine AC.oW 15 [.tmp 2] Tryz.call17 Tryz.func17 ?_;refine seqR (S BX ?_);refine s0 (assignNil (k':=2) rfl) rfl ?_;refine nil ?_;refine seqK fun K2 hK2=>?_;refine seqR (S Ld ?_);obtain⟨x4,gx4,hE⟩:=bO hE;refine Sc rfl rfl (Z53_walk gx4) ?_;refine S As (nil ?_);refine seqR (S Mv ?_);refine sLen (f:=Z5.c) (s:=x4) (TK rfl) rfl rfl rfl rfl fun hL6=>?_;refine S BI (nil ?_);refine cE hE (fun hc7 hE=>?_) (fun hc7 hE=>?_)
 ·cases hE
 refine sk hK2 ?_;clear hK2 K2;refine AWp.tok 2 fun tk1 htk1=>?_;refine AWp.seqD (Sd Ld ?_);obtain⟨x9,gx9,hE⟩:=bO hE;refine DOps.sH (callH rfl rfl (Z10_tok gx9 _ hpG)) rfl ?_;refine DOps.Dh (H.set tk1 (some (.tok 2 x9.l.length))) ?_;refine Sd Ld ?_;obtain⟨x10,gx10,hE⟩:=bO hE;refine Scd rfl rfl (Z18_walk gx10) ?_;obtain⟨x11,gx11,hE⟩:=bO hE;refine DOps.sH (appM (f:=Z5.c) (TK rfl) rfl (TK rfl) (TK rfl) ⟨_,rfl⟩ rfl rfl (by decide) rfl rfl rfl rfl hpG rfl gx11) rfl ?_
 refine DOps.Dh (H.set tk1 (some (.tok 2 x11.l.length))) ?_;refine Sd As ?_;refine DOps.nil (by decide +kernel) ?_;refine AWp.dropTok 2 rfl ?_;refine AWp.ret ?_;repeat (first|refine xBlock_ret ?_|refine xThen_ret ?_)
 obtain rfl:=oJ hE;refine retQ.retF H rfl ⟨rfl,rfl⟩ ?_
 first|exact Heap.sub_set htk1|(simp only [Heap.set_set]; exact Heap.sub_set htk1)
end Go.Proofs

namespace Go.Proofs
open Go Go.Ab
open AOps Cert AWp Keeps KeepsT
variable {lou:Lou}
-- @uses supergraph/contract.Tags supergraph/contract.meets (supergraph/contract.filter).first (*supergraph/contract.cutter).round supergraph/validate.Schema
noncomputable def Z26_cg (t:Nat) (z:Z2):List D:=[Sl.d 7 TDef.c (some t) z.Fd.FDefs,.bool z.Fchanged]
def Z26_j7  (y8_id17_4:Z2):Option (TDoc×(Sl Z5)):=(Z90 y8_id17_4.Fd).bind fun x11=>bif (decide ((0:Int)<((x11.l.length:Nat):Int))) then(some ((TDoc.mk (Sl.nil:Sl TDef)),x11)) else(some (y8_id17_4.Fd,(Sl.nil:Sl Z5)))
def Z26_l19 :Nat->Z2->Option (TDoc×(Sl Z5))
 | 0,_=>none
 | n19+1,y20_id17_4=>bif y20_id17_4.Fchanged then((Z37 y20_id17_4).bind fun x24=>(Z26_l19  n19) x24) else(Z26_j7   y20_id17_4)
def Z26_j5  (y6_id17_4:Z2):Option (TDoc×(Sl Z5)):=(Z37 y6_id17_4).bind fun x18=>Z26_l19 F0 x18
def Z26_j33 (s21_28:Nat) (k_next_27:Nat->Z2->Option (TDoc×(Sl Z5))) (y34_id17_4:Z2):Option (TDoc×(Sl Z5)):=k_next_27 (s21_28+1) y34_id17_4
def Z26_l27 (a0:TDoc) (a1:(Sl Bs)) (a2:(Sl Bs)) :Nat->Nat->Z2->Option (TDoc×(Sl Z5))
 | 0,_,_=>none
 | n27+1,s21_28,y29_id17_4=>bif (decide (((s21_28:Nat):Int)<((a0.FDefs.l.length:Nat):Int))) then((a0.FDefs.l[s21_28]?).bind fun x36=>(Z29 x36.FDirs).bind fun x38=>(Z40 x38 a2).bind fun x39=>bif (!x39) then((Z39 (Z3.mk a1 a2) x36).bind fun x41=>(appC 144 y29_id17_4.Fd.FDefs (⟨false,[x41]⟩:Sl TDef)).bind fun x42=>Z26_j33 s21_28 ((Z26_l27 a0 a1 a2 n27)) (Z2.mk (TDoc.mk x42) y29_id17_4.Fchanged)) else(Z26_j33 s21_28 ((Z26_l27 a0 a1 a2 n27)) y29_id17_4)) else(Z26_j5   y29_id17_4)
def Z26 (a0:TDoc) (a1:(Sl Bs)) (a2:(Sl Bs)):Option (TDoc×(Sl Z5)):=Z26_l27 a0 a1 a2 (a0.FDefs.l.length+1) 0 (Z2.mk TDoc.zero false)
theorem Z26_walk {a0:TDoc}{a1 a2:Sl Bs}{w1 w2:Option Nat}{r:(TDoc×(Sl Z5))}(hE:Z26 a0 a1 a2=some r) (H:Heap):AC Tryz.prog 8 [.agg (TDoc.c a0),.d (Sl.d 1 strE w1 a1),.d (Sl.d 1 strE w2 a2)] H fun v h'=>v=.tup [.agg (TDoc.c r.1),.d (Sl.d 2 Z5.c none r.2)]/\h'=H:=by
 unfold Z26 at hE;refine AC.oW 68 [.cell 6 40,.tmp 7] Tryz.call8 Tryz.func8 ?_;refine seqR (S BX ?_);refine Sl ?_;refine s0 (assignNil (k':=2) rfl) rfl ?_;refine nil ?_;refine seqR (S Mv (S Mv ?_));refine AOps.dropTok 13 rfl ?_;refine AOps.dropTok 14 rfl ?_;refine S BU ?_;refine Sl ?_;refine Sf ?_;refine nil ?_;refine freezeA 8 _ rfl (KA 2 (KA 3 (KA 6 Keeps.nil))) ?_;refine seqR (S BU ?_);refine sE (StepE.boxO rfl) rfl (fun _ _ _ ⟨id17_4,hid17_4,e1,e2,e3⟩=>?_); subst e1 e2 e3
 refine hq (H.set id17_4 (some (.cells (Z2.c (Z2.mk TDoc.zero false))))) ?_;refine S As (nil ?_);refine AWp.tok 7 fun tkF htkF=>?_;have ne_tkF_id17_4:tkF≠id17_4:=fun e_=>by subst e_; simp_all [Heap.set]
 have hHt:H tkF=none:=by simpa [Heap.set,ne_tkF_id17_4] using htkF
 refine AWp.recell id17_4 (Z26_cg tkF (Z2.mk TDoc.zero false)) hpG (fun j w cs hh hx=>by exact tok_cell (xs:=Z2.c (Z2.mk TDoc.zero false)) 0 7 7 hh (t:=tkF) hpG hx rfl) ?_;refine AWp.heqA (h':=((H.set tkF (some (.tok 7 (Z2.mk TDoc.zero false).Fd.FDefs.l.length))).set id17_4 (some (.cells (Z26_cg tkF (Z2.mk TDoc.zero false)))))) (by first|rfl|(rw [Heap.set_set]; rfl)|(funext n_; simp only [Heap.set]; (repeat' split)<;>first|rfl|(exfalso; simp_all; done)|(simp_all; done))) ?_
 refine seqJH (TA 6 (TA 9 kN)) (fun(z:Z2)=>[]) (fun z=>((H.set tkF (some (.tok 7 z.Fd.FDefs.l.length))).set id17_4 (some (.cells (Z26_cg tkF z))))) (fun z=>Z26_j5 z=some r) ?_ ?_
 ·intro K5 hK5;refine seqR (S Fv (S Ld ?_));refine sLen (f:=TDef.c) (s:=a0.FDefs) (TK rfl) rfl rfl rfl rfl fun hL26=>?_;refine S Mv (nil ?_);refine block ?_;refine loopH (TA 2 (TA 6 (TA 8 (TA 9 (TA 19 (TA 20 kN)))))) (fun(z:Nat×Nat×Z2)=>[(21,.a (.d (.int .i64 ((z.2.1:Nat):Int))))]) (fun z=>((H.set tkF (some (.tok 7 z.2.2.Fd.FDefs.l.length))).set id17_4 (some (.cells (Z26_cg tkF z.2.2))))) (fun z=>z.1) (fun z=>Z26_l27 a0 a1 a2 z.1 z.2.1 z.2.2=some r) ((a0.FDefs.l.length+1),0,(Z2.mk TDoc.zero false)) hE wA ?_
  rintro ⟨n27,s21_28,y29_id17_4⟩ hE K27 hK27;try dsimp only at hE
  cases n27 with
  | zero=>cases hE
  | succ n27 =>
    rw [Z26_l27] at hE;refine seqR (S BI (nil ?_));refine seqK fun K31 hK31=>?_;refine cE hE (fun hc32 hE=>?_) (fun hc32 hE=>?_)
    ·try dsimp only at hc32
     have hf32:=oD hc32;refine sk hK31 ?_;clear hK31 K31;refine seqJH (TA 2 (TA 6 (TA 8 (TA 9 (TA 19 (TA 20 (TA 21 kN))))))) (fun(z:Z2)=>[]) (fun z=>((H.set tkF (some (.tok 7 z.Fd.FDefs.l.length))).set id17_4 (some (.cells (Z26_cg tkF z))))) (fun z=>Z26_j33 s21_28 ((Z26_l27 a0 a1 a2 n27)) z=some r) ?_ ?_
     ·intro K33 hK33;refine block ?_;refine seqR ?_;obtain⟨x36,gx36,hE⟩:=bO hE;refine S (ix TDef.c s21_28 gx36) (S Ld ?_);refine Sl ?_;refine Sf ?_;refine nil ?_;refine freezeA 11 _ rfl (KA 2 (KA 6 (KA 8 (KA 9 (KA 19 (KA 20 (KA 21 Keeps.nil))))))) ?_;refine seqR (S Fv (S Ld ?_));obtain⟨x38,gx38,hE⟩:=bO hE;refine Sc rfl rfl (Z29_walk gx38) ?_;refine S Mv ?_;obtain⟨x39,gx39,hE⟩:=bO hE;refine Sc rfl rfl (Z40_walk gx39) ?_
      refine S NB (nil ?_);refine cE hE (fun hc40 hE=>?_) (fun hc40 hE=>?_)
      ·refine AWp.draw rfl ?_;refine Sd Mv (Sd Mv (Sd NP ?_));refine DOps.s0 (fieldP (TK rfl) rfl rfl (TK rfl) rfl rfl) rfl ?_;refine DOps.s0 (fieldP (TK rfl) rfl rfl (TK rfl) rfl rfl) rfl ?_;refine DOps.s0 (loadP (TK rfl) rfl rfl hpG rfl) rfl ?_;refine Sd Ld (Sd Ld ?_);obtain⟨x41,gx41,hE⟩:=bO hE;refine Scd rfl rfl (Z39_walk gx41) ?_;refine Sd BV ?_;obtain⟨x42,gx42,hE⟩:=bO hE;refine DOps.sH (appM (f:=TDef.c) (TK rfl) rfl (TK rfl) (TK rfl) ⟨_,rfl⟩ rfl rfl (by decide) rfl rfl rfl rfl hpG rfl gx42) rfl ?_
       refine Sd NP ?_;refine DOps.s0 (fieldP (TK rfl) rfl rfl (TK rfl) rfl rfl) rfl ?_;refine DOps.s0 (fieldP (TK rfl) rfl rfl (TK rfl) rfl rfl) rfl ?_;refine DOps.sHn (storeP1 (TK rfl) rfl rfl hpG rfl (by repeat (first|exact SetAt.zero|apply SetAt.succ))) rfl rfl ?_;refine DOps.Dh ((H.set tkF (some (.tok 7 (Z2.mk (TDoc.mk x42) y29_id17_4.Fchanged).Fd.FDefs.l.length))).set id17_4 (some (.cells (Z26_cg tkF (Z2.mk (TDoc.mk x42) y29_id17_4.Fchanged))))) ?_
       refine DOps.nil (by decide +kernel) ?_;exact hK33 _ (Z2.mk (TDoc.mk x42) y29_id17_4.Fchanged) wA hE
      refine AWp.skip ?_;exact hK33 _ y29_id17_4 wA hE
     rintro y34_id17_4 hE;try dsimp only at hE
     unfold Z26_j33 at hE;refine region ?_;refine SI ?_;refine S Mv (nil ?_);exact hK27 _ (n27,(s21_28+1),y34_id17_4) wA hE (nS _)
    refine AWp.exit ?_;exact hK5 _ y29_id17_4 wA hE
 rintro y6_id17_4 hE;try dsimp only at hE
 unfold Z26_j5 at hE;refine AWp.recell id17_4 (Z2.c y6_id17_4) hpG (fun j w cs hh hx=>by exact untok_cell (xs:=Z26_cg tkF y6_id17_4) 0 hx rfl) ?_;refine AWp.weak (Weak.forget (h':=(H.set id17_4 (some (.cells (Z2.c y6_id17_4))))) ?_) ?_
 ·intro id_ o_ he_;have e_tk:id_≠tkF:=fun e_=>by subst e_; simp_all [Heap.set]
  rw [<- he_];simp only [Heap.set] at he_ ⊢
  (repeat' split)<;>simp_all
 refine seqJH (TA 6 (TA 9 kN)) (fun(z:Z2)=>[]) (fun z=>(H.set id17_4 (some (.cells (Z2.c z))))) (fun z=>Z26_j7 z=some r) ?_ ?_
 ·intro K7 hK7;refine seqR (S Mv ?_);obtain⟨x18,gx18,hE⟩:=bO hE;refine sH (callH rfl rfl (Z37_walk gx18 _ hpG)) rfl ?_;refine hq (H.set id17_4 (some (.cells (Z2.c x18)))) ?_;refine nil ?_;refine block ?_;refine loopH (TA 6 (TA 9 kN)) (fun(z:Nat×Z2)=>[]) (fun z=>(H.set id17_4 (some (.cells (Z2.c z.2))))) (fun z=>z.1) (fun z=>Z26_l19 z.1 z.2=some r) (F0,x18) hE wA ?_;rintro ⟨n19,y20_id17_4⟩ hE K19 hK19
  try dsimp only at hE
  cases n19 with
  | zero=>cases hE
  | succ n19 =>
    rw [Z26_l19] at hE;refine seqK fun K21 hK21=>?_;refine seqR (S Mv (S NP ?_));refine s0 (fieldP (TK rfl) rfl rfl (TK rfl) rfl rfl) rfl ?_;refine s0 (loadP (TK rfl) rfl rfl hpG rfl) rfl ?_;refine nil ?_;refine cE hE (fun hc23 hE=>?_) (fun hc23 hE=>?_)
    ·refine sk hK21 ?_;clear hK21 K21;refine block ?_;refine region ?_;refine S Mv ?_;obtain⟨x24,gx24,hE⟩:=bO hE;refine sH (callH rfl rfl (Z37_walk gx24 _ hpG)) rfl ?_;refine hq (H.set id17_4 (some (.cells (Z2.c x24)))) ?_;refine nil ?_;exact hK19 _ (n19,x24) wA hE (nS _)
    refine AWp.exit ?_;exact hK7 _ y20_id17_4 wA hE
 rintro y8_id17_4 hE;try dsimp only at hE
 unfold Z26_j7 at hE;refine seqK fun K9 hK9=>?_;refine seqR (S Mv (S NP ?_));refine s0 (fieldP (TK rfl) rfl rfl (TK rfl) rfl rfl) rfl ?_;refine s0 (loadP (TK rfl) rfl rfl hpG rfl) rfl ?_;obtain⟨x11,gx11,hE⟩:=bO hE;refine Sc rfl rfl (Z90_walk gx11) ?_;refine S As (nil ?_);refine seqR (S Mv ?_);refine sLen (f:=Z5.c) (s:=x11) (TK rfl) rfl rfl rfl rfl fun hL13=>?_;refine S BI (nil ?_);refine cE hE (fun hc14 hE=>?_) (fun hc14 hE=>?_)
 ·refine seqR (S BU (S Mv ?_));refine Sf ?_;refine S As (nil ?_);refine AWp.ret ?_;repeat (first|refine xBlock_ret ?_|refine xThen_ret ?_)
  obtain rfl:=oJ hE;refine retQ.retF H rfl ⟨rfl,rfl⟩ ?_
  first|exact Heap.sub_set hid17_4|(simp only [Heap.set_set]; exact Heap.sub_set hid17_4)
 refine sk hK9 ?_;clear hK9 K9;refine seqR (S Mv (S NP ?_));refine s0 (fieldP (TK rfl) rfl rfl (TK rfl) rfl rfl) rfl ?_;refine s0 (loadP (TK rfl) rfl rfl hpG rfl) rfl ?_;refine Sf ?_;refine s0 (assignNil (k':=2) rfl) rfl ?_;refine nil ?_;refine AWp.ret ?_;repeat (first|refine xBlock_ret ?_|refine xThen_ret ?_)
 obtain rfl:=oJ hE;refine retQ.retF H rfl ⟨rfl,rfl⟩ ?_
 first|exact Heap.sub_set hid17_4|(simp only [Heap.set_set]; exact Heap.sub_set hid17_4)
def Z28_j23 (s102_18:Nat) (k_next_17:Nat->(List Bs)->Option (List Bs)) (y24_c2:(List Bs)):Option (List Bs):=k_next_17 (s102_18+1) y24_c2
def Z28_l17 (a0:Bs) (a1:TDoc) (x2:(TDef×Bool)) :Nat->Nat->(List Bs)->Option (List Bs)
 | 0,_,_=>none
 | n17+1,s102_18,y19_c2=>bif (decide (((s102_18:Nat):Int)<((a1.FDefs.l.length:Nat):Int))) then((a1.FDefs.l[s102_18]?).bind fun x26=>guardO ((decide (x2.1.FKind=(2:Int)))) (Z74 x26.FImplements a0) false fun x28=>bif ((decide (x2.1.FKind=(2:Int)))&&x28) then(none) else(Z28_j23 s102_18 ((Z28_l17 a0 a1 x2 n17)) y19_c2)) else(some y19_c2)
def Z28_j13 (a0:Bs) (a1:TDoc) (x2:(TDef×Bool))  (y14_c2:(List Bs)):Option (List Bs):=Z28_l17 a0 a1 x2 (a1.FDefs.l.length+1) 0 y14_c2
def Z28_l32 (a0:Bs) (a1:TDoc) (x2:(TDef×Bool)) :Nat->Nat->(List Bs)->Option (List Bs)
 | 0,_,_=>none
 | n32+1,s91_33,y34_c2=>bif (decide (((s91_33:Nat):Int)<((x2.1.FImplements.l.length:Nat):Int))) then(none) else(Z28_j13 a0 a1 x2  y34_c2)
def Z28_j11 (a0:Bs) (a1:TDoc) (x2:(TDef×Bool))  (y12_c2:(List Bs)):Option (List Bs):=Z28_l32 a0 a1 x2 (x2.1.FImplements.l.length+1) 0 y12_c2
def Z28_l40 (a0:Bs) (a1:TDoc) (x2:(TDef×Bool)) :Nat->Nat->(List Bs)->Option (List Bs)
 | 0,_,_=>none
 | n40+1,s76_41,y42_c2=>bif (decide (((s76_41:Nat):Int)<((x2.1.FMembers.l.length:Nat):Int))) then(none) else(Z28_j11 a0 a1 x2  y42_c2)
def Z28_j9 (a0:Bs) (a1:TDoc) (x2:(TDef×Bool))  (y10_c2:(List Bs)):Option (List Bs):=Z28_l40 a0 a1 x2 (x2.1.FMembers.l.length+1) 0 y10_c2
def Z28_l48 (a0:Bs) (a1:TDoc) (x2:(TDef×Bool)) :Nat->Nat->(List Bs)->Option (List Bs)
 | 0,_,_=>none
 | n48+1,s63_49,y50_c2=>bif (decide (((s63_49:Nat):Int)<((x2.1.FInputs.l.length:Nat):Int))) then(none) else(Z28_j9 a0 a1 x2  y50_c2)
def Z28_j7 (a0:Bs) (a1:TDoc) (x2:(TDef×Bool))  (y8_c2:(List Bs)):Option (List Bs):=Z28_l48 a0 a1 x2 (x2.1.FInputs.l.length+1) 0 y8_c2
def Z28_j62 (s37_57:Nat) (k_next_56:Nat->(List Bs)->Option (List Bs)) (y63_c2:(List Bs)):Option (List Bs):=k_next_56 (s37_57+1) y63_c2
def Z28_l70 (s37_57:Nat) (x65:Z6) (k_next_56:Nat->(List Bs)->Option (List Bs)):Nat->Nat->(List Bs)->Option (List Bs)
 | 0,_,_=>none
 | n70+1,s49_71,y72_c2=>bif (decide (((s49_71:Nat):Int)<((x65.FArgs.l.length:Nat):Int))) then(none) else(Z28_j62 s37_57 k_next_56 y72_c2)
def Z28_l56 (a0:Bs) (a1:TDoc) (x2:(TDef×Bool)) (k_rec_18:Bs->TDoc->(List Bs)->Option (List Bs)):Nat->Nat->(List Bs)->Option (List Bs)
 | 0,_,_=>none
 | n56+1,s37_57,y58_c2=>bif (decide (((s37_57:Nat):Int)<((x2.1.FFields.l.length:Nat):Int))) then((x2.1.FFields.l[s37_57]?).bind fun x65=>(k_rec_18 x65.FType.FName a1 y58_c2).bind fun x67=>Z28_l70 s37_57 x65 ((Z28_l56 a0 a1 x2 k_rec_18 n56)) (x65.FArgs.l.length+1) 0 x67) else(Z28_j7 a0 a1 x2  y58_c2)
def Z28_n:Nat->Bs->TDoc->(List Bs)->Option (List Bs)
 | 0,_,_,_=>none
 | n+1,a0,a1,a2=>(Z55 a1 a0).bind fun x2=>bif ((!x2.2)||(a2.contains a0)) then(some a2) else(Z28_l56 a0 a1 x2 (Z28_n n) (x2.1.FFields.l.length+1) 0 (insS a2 a0))
theorem Z28_step (n:Nat) (ih_18:∀{a0:Bs}{a1:TDoc}{a2:List Bs}{c2 c3:Nat}{r:List Bs},Z28_n n a0 a1 a2=some r->∀(H:Heap) (hc2:H c2=some (.map (seenM a2))) (hc3:H c3=some (.cells [.func 18 [.view (TDoc.c a1),.view [.map c2],.ptr c3 0]])),AC Tryz.prog 18 [.d (.str a0),.d (.view (TDoc.c a1)),.d (.view [.map c2]),.d (.ptr c3 0)] H fun v h'=>v=.tup []/\h'=(H.set c2 (some (.map (seenM r))))):∀{a0:Bs}{a1:TDoc}{a2:List Bs}{c2 c3:Nat}{r:List Bs},Z28_n (n+1) a0 a1 a2=some r->∀(H:Heap) (hc2:H c2=some (.map (seenM a2))) (hc3:H c3=some (.cells [.func 18 [.view (TDoc.c a1),.view [.map c2],.ptr c3 0]])),AC Tryz.prog 18 [.d (.str a0),.d (.view (TDoc.c a1)),.d (.view [.map c2]),.d (.ptr c3 0)] H fun v h'=>v=.tup []/\h'=(H.set c2 (some (.map (seenM r)))):=by
 intro a0 a1 a2  c2 c3 r hE H hc2 hc3;rw [Z28_n] at hE;refine AC.oW 120 [] Tryz.call18 Tryz.func18 ?_;have ne_c3_c2:c3≠c2:=fun e_=>by subst e_; simp_all
 refine AWp.heqA (h':=(H.set c2 (some (.map (seenM a2))))) (by funext n_; simp only [Heap.set]; (repeat' split)<;>simp_all) ?_;refine seqR (S Ld (S Mv ?_));obtain⟨x2,gx2,hE⟩:=bO hE;refine Sc rfl rfl (Z55_walk gx2) ?_;refine S Mv (S EX (S EX ?_));refine Sl ?_;refine Sf ?_;refine S As (nil ?_);refine freezeA 5 _ rfl (KA 0 (KA 1 (KA 2 (KA 3 (KA 6 Keeps.nil))))) ?_;refine seqK fun K3 hK3=>?_;refine seqR (S Mv (S NB (S Mv (G0 Ld (G0 Mv ?_)))))
 refine gC rfl rfl (fun hC=>ungdA (k:=28) rfl (ungdA (k:=29) rfl (lookupSeen (TK rfl) rfl (TK rfl) (TK rfl) rfl rfl rfl rfl hpG))) rfl ?_;refine S PO (nil ?_);refine cE hE (fun hc5 hE=>?_) (fun hc5 hE=>?_)
 ·exact rt hE
 refine sk hK3 ?_;clear hK3 K3;refine seqR (S Ld (S Mv ?_));refine sHn (mapUpdate (TK rfl) rfl (TK rfl) rfl rfl rfl rfl hpG (seen_upd _ _) rfl) rfl rfl ?_;refine hq (H.set c2 (some (.map (seenM (insS a2 a0))))) ?_;refine nil ?_;refine seqJH (TA 0 (TA 1 (TA 3 (TA 5 kN)))) (fun(z:(List Bs))=>[]) (fun z=>(H.set c2 (some (.map (seenM z))))) (fun z=>Z28_j7 a0 a1 x2 z=some r) ?_ ?_
 ·intro K7 hK7;refine seqR (S Fv (S Ld ?_));refine sLen (f:=Z6.c) (s:=x2.1.FFields) (TK rfl) rfl rfl rfl rfl fun hL55=>?_;refine S Mv (nil ?_);refine block ?_;refine loopH (TA 0 (TA 1 (TA 3 (TA 5 (TA 35 (TA 36 kN)))))) (fun(z:Nat×Nat×(List Bs))=>[(37,.a (.d (.int .i64 ((z.2.1:Nat):Int))))]) (fun z=>(H.set c2 (some (.map (seenM z.2.2))))) (fun z=>z.1) (fun z=>Z28_l56 a0 a1 x2 (Z28_n n) z.1 z.2.1 z.2.2=some r) ((x2.1.FFields.l.length+1),0,(insS a2 a0)) hE wA ?_
  rintro ⟨n56,s37_57,y58_c2⟩ hE K56 hK56;try dsimp only at hE
  cases n56 with
  | zero=>cases hE
  | succ n56 =>
    rw [Z28_l56] at hE;refine seqR (S BI (nil ?_));refine seqK fun K60 hK60=>?_;refine cE hE (fun hc61 hE=>?_) (fun hc61 hE=>?_)
    ·try dsimp only at hc61
     have hf61:=oD hc61;refine sk hK60 ?_;clear hK60 K60;refine seqJH (TA 0 (TA 1 (TA 3 (TA 5 (TA 35 (TA 36 (TA 37 kN))))))) (fun(z:(List Bs))=>[]) (fun z=>(H.set c2 (some (.map (seenM z))))) (fun z=>Z28_j62 s37_57 ((Z28_l56 a0 a1 x2 (Z28_n n) n56)) z=some r) ?_ ?_
     ·intro K62 hK62;refine block ?_;refine seqR ?_;obtain⟨x65,gx65,hE⟩:=bO hE;refine S (ix Z6.c s37_57 gx65) (S Ld ?_);refine Sl ?_;refine Sf ?_;refine nil ?_;refine freezeA 8 _ rfl (KA 0 (KA 1 (KA 3 (KA 5 (KA 35 (KA 36 (KA 37 Keeps.nil))))))) ?_;refine seqR ?_;refine s0 (loadP (TK rfl) rfl rfl hpG rfl) rfl ?_;refine S Fv (S Fv (S Ld ?_));obtain⟨x67,gx67,hE⟩:=bO hE;refine sH (callH rfl rfl (ih_18 gx67 _ hpG hpG)) rfl ?_
      refine hq (H.set c2 (some (.map (seenM x67)))) ?_;refine nil ?_;refine seqR (S Fv (S Ld ?_));refine sLen (f:=Z7.c) (s:=x65.FArgs) (TK rfl) rfl rfl rfl rfl fun hL69=>?_;refine S Mv (nil ?_);refine block ?_;refine loopH (TA 0 (TA 1 (TA 3 (TA 5 (TA 35 (TA 36 (TA 37 (TA 47 (TA 48 kN))))))))) (fun(z:Nat×Nat×(List Bs))=>[(49,.a (.d (.int .i64 ((z.2.1:Nat):Int))))]) (fun z=>(H.set c2 (some (.map (seenM z.2.2))))) (fun z=>z.1) (fun z=>Z28_l70 s37_57 x65 ((Z28_l56 a0 a1 x2 (Z28_n n) n56)) z.1 z.2.1 z.2.2=some r) ((x65.FArgs.l.length+1),0,x67) hE wA ?_
      rintro ⟨n70,s49_71,y72_c2⟩ hE K70 hK70;try dsimp only at hE
      cases n70 with
      | zero=>cases hE
      | succ n70 =>
        rw [Z28_l70] at hE;refine seqR (S BI (nil ?_));refine seqK fun K74 hK74=>?_;refine cE hE (fun hc75 hE=>?_) (fun hc75 hE=>?_)
        ·try dsimp only at hc75
         have hf75:=oD hc75;cases hE
        refine AWp.exit ?_;exact hK62 _ y72_c2 wA hE
     rintro y63_c2 hE;try dsimp only at hE
     unfold Z28_j62 at hE;refine region ?_;refine SI ?_;refine S Mv (nil ?_);exact hK56 _ (n56,(s37_57+1),y63_c2) wA hE (nS _)
    refine AWp.exit ?_;exact hK7 _ y58_c2 wA hE
 rintro y8_c2 hE;try dsimp only at hE
 unfold Z28_j7 at hE;refine seqJH (TA 0 (TA 1 (TA 3 (TA 5 kN)))) (fun(z:(List Bs))=>[]) (fun z=>(H.set c2 (some (.map (seenM z))))) (fun z=>Z28_j9 a0 a1 x2 z=some r) ?_ ?_
 ·intro K9 hK9;refine seqR (S Fv (S Ld ?_));refine sLen (f:=Z7.c) (s:=x2.1.FInputs) (TK rfl) rfl rfl rfl rfl fun hL47=>?_;refine S Mv (nil ?_);refine block ?_;refine loopH (TA 0 (TA 1 (TA 3 (TA 5 (TA 61 (TA 62 kN)))))) (fun(z:Nat×Nat×(List Bs))=>[(63,.a (.d (.int .i64 ((z.2.1:Nat):Int))))]) (fun z=>(H.set c2 (some (.map (seenM z.2.2))))) (fun z=>z.1) (fun z=>Z28_l48 a0 a1 x2 z.1 z.2.1 z.2.2=some r) ((x2.1.FInputs.l.length+1),0,y8_c2) hE wA ?_
  rintro ⟨n48,s63_49,y50_c2⟩ hE K48 hK48;try dsimp only at hE
  cases n48 with
  | zero=>cases hE
  | succ n48 =>
    rw [Z28_l48] at hE;refine seqR (S BI (nil ?_));refine seqK fun K52 hK52=>?_;refine cE hE (fun hc53 hE=>?_) (fun hc53 hE=>?_)
    ·try dsimp only at hc53
     have hf53:=oD hc53;cases hE
    refine AWp.exit ?_;exact hK9 _ y50_c2 wA hE
 rintro y10_c2 hE;try dsimp only at hE
 unfold Z28_j9 at hE;refine seqJH (TA 0 (TA 1 (TA 3 (TA 5 kN)))) (fun(z:(List Bs))=>[]) (fun z=>(H.set c2 (some (.map (seenM z))))) (fun z=>Z28_j11 a0 a1 x2 z=some r) ?_ ?_
 ·intro K11 hK11;refine seqR (S Fv (S Ld ?_));refine sLen (f:=Z8.c) (s:=x2.1.FMembers) (TK rfl) rfl rfl rfl rfl fun hL39=>?_;refine S Mv (nil ?_);refine block ?_;refine loopH (TA 0 (TA 1 (TA 3 (TA 5 (TA 74 (TA 75 kN)))))) (fun(z:Nat×Nat×(List Bs))=>[(76,.a (.d (.int .i64 ((z.2.1:Nat):Int))))]) (fun z=>(H.set c2 (some (.map (seenM z.2.2))))) (fun z=>z.1) (fun z=>Z28_l40 a0 a1 x2 z.1 z.2.1 z.2.2=some r) ((x2.1.FMembers.l.length+1),0,y10_c2) hE wA ?_
  rintro ⟨n40,s76_41,y42_c2⟩ hE K40 hK40;try dsimp only at hE
  cases n40 with
  | zero=>cases hE
  | succ n40 =>
    rw [Z28_l40] at hE;refine seqR (S BI (nil ?_));refine seqK fun K44 hK44=>?_;refine cE hE (fun hc45 hE=>?_) (fun hc45 hE=>?_)
    ·try dsimp only at hc45
     have hf45:=oD hc45;cases hE
    refine AWp.exit ?_;exact hK11 _ y42_c2 wA hE
 rintro y12_c2 hE;try dsimp only at hE
 unfold Z28_j11 at hE;refine seqJH (TA 0 (TA 1 (TA 3 (TA 5 kN)))) (fun(z:(List Bs))=>[]) (fun z=>(H.set c2 (some (.map (seenM z))))) (fun z=>Z28_j13 a0 a1 x2 z=some r) ?_ ?_
 ·intro K13 hK13;refine seqR (S Fv (S Ld ?_));refine sLen (f:=strE) (s:=x2.1.FImplements) (TK rfl) rfl rfl rfl rfl fun hL31=>?_;refine S Mv (nil ?_);refine block ?_;refine loopH (TA 0 (TA 1 (TA 3 (TA 5 (TA 89 (TA 90 kN)))))) (fun(z:Nat×Nat×(List Bs))=>[(91,.a (.d (.int .i64 ((z.2.1:Nat):Int))))]) (fun z=>(H.set c2 (some (.map (seenM z.2.2))))) (fun z=>z.1) (fun z=>Z28_l32 a0 a1 x2 z.1 z.2.1 z.2.2=some r) ((x2.1.FImplements.l.length+1),0,y12_c2) hE wA ?_
  rintro ⟨n32,s91_33,y34_c2⟩ hE K32 hK32;try dsimp only at hE
  cases n32 with
  | zero=>cases hE
  | succ n32 =>
    rw [Z28_l32] at hE;refine seqR (S BI (nil ?_));refine seqK fun K36 hK36=>?_;refine cE hE (fun hc37 hE=>?_) (fun hc37 hE=>?_)
    ·try dsimp only at hc37
     have hf37:=oD hc37;cases hE
    refine AWp.exit ?_;exact hK13 _ y34_c2 wA hE
 rintro y14_c2 hE;try dsimp only at hE
 unfold Z28_j13 at hE;refine seqR (S Fv (S Ld ?_));refine sLen (f:=TDef.c) (s:=a1.FDefs) (TK rfl) rfl rfl rfl rfl fun hL16=>?_;refine S Mv (nil ?_);refine block ?_;refine loopH (TA 0 (TA 3 (TA 5 (TA 100 (TA 101 kN))))) (fun(z:Nat×Nat×(List Bs))=>[(102,.a (.d (.int .i64 ((z.2.1:Nat):Int))))]) (fun z=>(H.set c2 (some (.map (seenM z.2.2))))) (fun z=>z.1) (fun z=>Z28_l17 a0 a1 x2 z.1 z.2.1 z.2.2=some r) ((a1.FDefs.l.length+1),0,y14_c2) hE wA ?_
 rintro ⟨n17,s102_18,y19_c2⟩ hE K17 hK17;try dsimp only at hE
 cases n17 with
 | zero=>cases hE
 | succ n17 =>
   rw [Z28_l17] at hE;refine seqR (S BI (nil ?_));refine seqK fun K21 hK21=>?_;refine cE hE (fun hc22 hE=>?_) (fun hc22 hE=>?_)
   ·try dsimp only at hc22
    have hf22:=oD hc22;refine sk hK21 ?_;clear hK21 K21;refine seqJH (TA 0 (TA 3 (TA 5 (TA 100 (TA 101 (TA 102 kN)))))) (fun(z:(List Bs))=>[]) (fun z=>(H.set c2 (some (.map (seenM z))))) (fun z=>Z28_j23 s102_18 ((Z28_l17 a0 a1 x2 n17)) z=some r) ?_ ?_
    ·intro K23 hK23;refine block ?_;refine seqR ?_;obtain⟨x26,gx26,hE⟩:=bO hE;refine S (ix TDef.c s102_18 gx26) (S Ld ?_);refine Sl ?_;refine Sf ?_;refine nil ?_;refine freezeA 18 _ rfl (KA 0 (KA 3 (KA 5 (KA 100 (KA 101 (KA 102 Keeps.nil)))))) ?_;refine seqR (S Fv (S Ld (S BI (S Mv (G0 Fv ?_)))));refine G1 110 rfl Ld ?_;refine G0 Mv ?_;obtain⟨x28,gx28,hE⟩:=gO hE;refine Gc2 111 112 rfl rfl rfl rfl rfl rfl (fun hC=>Z74_walk (gx28 hC)) ?_
     refine S PA (nil ?_);refine cE hE (fun hc29 hE=>?_) (fun hc29 hE=>?_)
     ·cases hE
     refine AWp.skip ?_;exact hK23 _ y19_c2 wA hE
    rintro y24_c2 hE;try dsimp only at hE
    unfold Z28_j23 at hE;refine region ?_;refine SI ?_;refine S Mv (nil ?_);exact hK17 _ (n17,(s102_18+1),y24_c2) wA hE (nS _)
   refine AWp.exit ?_;repeat (first|refine xBlock_normal ?_|refine xThen_exit ?_|refine xBlock_exit ?_)
   obtain rfl:=oJ hE;refine retQ.normalF (H.set c2 (some (.map (seenM y19_c2)))) (xs:=[]) rfl ⟨rfl,rfl⟩ ?_;exact(fun _ _ h=>h)
theorem Z28_all:∀(n:Nat),(∀{a0:Bs}{a1:TDoc}{a2:List Bs}{c2 c3:Nat}{r:List Bs},Z28_n n a0 a1 a2=some r->∀(H:Heap) (hc2:H c2=some (.map (seenM a2))) (hc3:H c3=some (.cells [.func 18 [.view (TDoc.c a1),.view [.map c2],.ptr c3 0]])),AC Tryz.prog 18 [.d (.str a0),.d (.view (TDoc.c a1)),.d (.view [.map c2]),.d (.ptr c3 0)] H fun v h'=>v=.tup []/\h'=(H.set c2 (some (.map (seenM r)))))
 | 0=>fun hE=>by first|cases hE|(rw [Z28_n] at hE; cases hE)
 | n+1=>Z28_step n (Z28_all n)
def Z28 (a0:Bs) (a1:TDoc) (a2:(List Bs)):Option (List Bs):=Z28_n F0 a0 a1 a2
theorem Z28_walk {a0:Bs}{a1:TDoc}{a2:List Bs}{c2 c3:Nat}{r:List Bs}(hE:Z28 a0 a1 a2=some r) (H:Heap) (hc2:H c2=some (.map (seenM a2))) (hc3:H c3=some (.cells [.func 18 [.view (TDoc.c a1),.view [.map c2],.ptr c3 0]])):AC Tryz.prog 18 [.d (.str a0),.d (.view (TDoc.c a1)),.d (.view [.map c2]),.d (.ptr c3 0)] H fun v h'=>v=.tup []/\h'=(H.set c2 (some (.map (seenM r)))):=(Z28_all F0) hE H hc2 hc3
def Z27_j12  (y13_l1:TDoc):Option TDoc:=some y13_l1
def Z27_j23 (s25_18:Nat) (k_next_17:Nat->TDoc->Option TDoc) (y24_l1:TDoc):Option TDoc:=k_next_17 (s25_18+1) y24_l1
def Z27_l17 (a0:TDoc) (y8_id11_3:(List Bs)) :Nat->Nat->TDoc->Option TDoc
 | 0,_,_=>none
 | n17+1,s25_18,y19_l1=>bif (decide (((s25_18:Nat):Int)<((a0.FDefs.l.length:Nat):Int))) then((a0.FDefs.l[s25_18]?).bind fun x26=>bif (y8_id11_3.contains x26.FName) then((Z39 (Z3.mk (Sl.nil:Sl Bs) (Sl.nil:Sl Bs)) x26).bind fun x29=>(appC 144 y19_l1.FDefs (⟨false,[x29]⟩:Sl TDef)).bind fun x30=>Z27_j23 s25_18 ((Z27_l17 a0 y8_id11_3 n17)) (TDoc.mk x30)) else(Z27_j23 s25_18 ((Z27_l17 a0 y8_id11_3 n17)) y19_l1)) else(Z27_j12   y19_l1)
def Z27_j7 (a0:TDoc)  (y8_id11_3:(List Bs)):Option TDoc:=Z27_l17 a0 y8_id11_3 (a0.FDefs.l.length+1) 0 TDoc.zero
def Z27_l32 (a0:TDoc) :Nat->Int->(List Bs)->Option TDoc
 | 0,_,_=>none
 | n32+1,s14_33,y34_id11_3=>bif (decide (s14_33<(3:Int))) then((idxC ([([81,117,101,114,121]:Bs),([77,117,116,97,116,105,111,110]:Bs),([83,117,98,115,99,114,105,112,116,105,111,110]:Bs)]:List Bs) s14_33).bind fun x40=>(Z28 x40 a0 y34_id11_3).bind fun x41=>(addC s14_33 (1:Int)).bind fun x42=>(Z27_l32 a0 n32) x42 x41) else(Z27_j7 a0  y34_id11_3)
def Z27 (a0:TDoc):Option TDoc:=Z27_l32 a0 F0 (0:Int) ([]:List Bs)
theorem Z27_walk {a0 r:TDoc}(hE:Z27 a0=some r) (H:Heap) :AC Tryz.prog 9 [.agg (TDoc.c a0)] H fun v h'=>v=.a (.agg (TDoc.c r))/\h'=H:=by
 unfold Z27 at hE;refine AC.oW 43 [.cell 2 40] Tryz.call9 Tryz.func9 ?_;refine seqR (S BX ?_);refine Sl ?_;refine nil ?_;refine seqR ?_;refine sE StepE.makeMap rfl (fun _ _ _ ⟨id11_3,hid11_3,e1,e2,e3⟩=>?_); subst e1 e2 e3;refine hq (H.set id11_3 (some (.map (seenM ([]:List Bs))))) ?_;refine Sl ?_;refine Sf ?_;refine nil ?_;refine freezeA 3 _ rfl (KA 1 (KA 2 Keeps.nil)) ?_;refine seqR ?_;refine sE (StepE.allocO (TK rfl) rfl) rfl (fun _ _ _ ⟨id4_5,hid4_5,e1,e2,e3⟩=>?_); subst e1 e2 e3
 obtain⟨ne_id4_5_id11_3,hid4_5⟩:=Heap.set_fresh hid4_5;refine hq ((H.set id11_3 (some (.map (seenM ([]:List Bs))))).set id4_5 (some (.cells [.nilFunc]))) ?_;refine nil ?_;refine seqR ?_;refine s0 (makeFunc rfl) rfl ?_;refine sHn (storeP1 (TK rfl) rfl rfl hpG rfl (by repeat (first|exact SetAt.zero|apply SetAt.succ))) rfl rfl ?_;refine hq ((H.set id11_3 (some (.map (seenM ([]:List Bs))))).set id4_5 (some (.cells [.func 18 [.view (TDoc.c a0),.view [.map id11_3],.ptr id4_5 0]]))) ?_
 refine nil ?_;refine seqJH (TA 1 (TA 2 (TA 3 kN))) (fun(z:(List Bs))=>[]) (fun z=>((H.set id11_3 (some (.map (seenM z)))).set id4_5 (some (.cells [.func 18 [.view (TDoc.c a0),.view [.map id11_3],.ptr id4_5 0]])))) (fun z=>Z27_j7 a0 z=some r) ?_ ?_
 ·intro K7 hK7;refine seqR ?_;refine s0 (buildArr Tryz.tab_ok Tryz.underlying71 rfl rfl rfl rfl rfl) rfl ?_;refine S Mv (nil ?_);refine block ?_;refine loopH (TA 1 (TA 2 (TA 3 (TA 4 (TA 13 kN))))) (fun(z:Nat×Int×(List Bs))=>[(14,.a (.d (.int .i64 z.2.1)))]) (fun z=>((H.set id11_3 (some (.map (seenM z.2.2)))).set id4_5 (some (.cells [.func 18 [.view (TDoc.c a0),.view [.map id11_3],.ptr id4_5 0]])))) (fun z=>z.1) (fun z=>Z27_l32 a0 z.1 z.2.1 z.2.2=some r) (F0,(0:Int),([]:List Bs)) hE wA ?_
  rintro ⟨n32,s14_33,y34_id11_3⟩ hE K32 hK32;try dsimp only at hE
  cases n32 with
  | zero=>cases hE
  | succ n32 =>
    rw [Z27_l32] at hE;refine seqR (S BI (nil ?_));refine seqK fun K36 hK36=>?_;refine cE hE (fun hc37 hE=>?_) (fun hc37 hE=>?_)
    ·refine sk hK36 ?_;clear hK36 K36;refine seqK fun K38 hK38=>?_;refine block ?_;refine seqR ?_;obtain⟨x40,gx40,hE⟩:=bO hE;refine s0 (indexArr (f:=D.str) (l:=([([81,117,101,114,121]:Bs),([77,117,116,97,116,105,111,110]:Bs),([83,117,98,115,99,114,105,112,116,105,111,110]:Bs)]:List Bs)) Tryz.underlying71 Tryz.underlying9 (Tryz.tab_ok 9 _ rfl) rfl rfl rfl rfl gx40) rfl ?_;refine S As (nil ?_);refine region ?_
     refine s0 (loadP (TK rfl) rfl rfl hpG rfl) rfl ?_;refine S Mv ?_;obtain⟨x41,gx41,hE⟩:=bO hE;refine sH (callH rfl rfl (Z28_walk gx41 _ hpG hpG)) rfl ?_;refine hq ((H.set id11_3 (some (.map (seenM x41)))).set id4_5 (some (.cells [.func 18 [.view (TDoc.c a0),.view [.map id11_3],.ptr id4_5 0]]))) ?_;refine nil ?_;refine hK38 _ ?_;clear hK38 K38;refine region ?_;obtain⟨x42,gx42,hE⟩:=bO hE;refine s0 (addM rfl rfl gx42) rfl ?_
     refine S Mv (nil ?_);exact hK32 _ (n32,x42,x41) wA hE (nS _)
    refine AWp.exit ?_;exact hK7 _ y34_id11_3 wA hE
 rintro y8_id11_3 hE;try dsimp only at hE
 unfold Z27_j7 at hE;refine seqR ?_;refine Sl ?_;refine AOps.tok 7 fun tk7_10 htk7_10=>?_;obtain⟨ne_tk7_10_id4_5,htk7_10⟩:=Heap.set_fresh htk7_10;obtain⟨ne_tk7_10_id11_3,htk7_10⟩:=Heap.set_fresh htk7_10;refine AOps.relocal 1 _ rfl (fun j w cs hh hx=>tok_cell 0 7 7 hh (t:=tk7_10) hpG hx rfl) ?_;refine nil ?_;refine seqR (S BU ?_);refine Sl ?_;refine Sf ?_;refine nil ?_;refine freezeA 8 _ rfl (KA 1 (KA 2 (KA 3 (KA 7 Keeps.nil)))) ?_
 refine seqJ (TA 2 (TA 7 kN)) (fun(z:TDoc)=>[]) (fun z=>[TDoc.c TDoc.zero,([Sl.d 7 TDef.c (some tk7_10) z.FDefs])]) (fun z=>(((H.set id11_3 (some (.map (seenM y8_id11_3)))).set id4_5 (some (.cells [.func 18 [.view (TDoc.c a0),.view [.map id11_3],.ptr id4_5 0]]))).set tk7_10 (some (.tok 7 z.FDefs.l.length)))) (fun z=>Z27_j12 z=some r) ?_ ?_
 ·intro K12 hK12;refine seqR (S Fv (S Ld ?_));refine sLen (f:=TDef.c) (s:=a0.FDefs) (TK rfl) rfl rfl rfl rfl fun hL16=>?_;refine S Mv (nil ?_);refine block ?_;refine loopO (TA 2 (TA 3 (TA 7 (TA 8 (TA 23 (TA 24 kN)))))) (fun(z:Nat×Nat×TDoc)=>[(25,.a (.d (.int .i64 ((z.2.1:Nat):Int))))]) (fun z=>[TDoc.c TDoc.zero,([Sl.d 7 TDef.c (some tk7_10) z.2.2.FDefs])]) (fun z=>(((H.set id11_3 (some (.map (seenM y8_id11_3)))).set id4_5 (some (.cells [.func 18 [.view (TDoc.c a0),.view [.map id11_3],.ptr id4_5 0]]))).set tk7_10 (some (.tok 7 z.2.2.FDefs.l.length)))) (fun z=>z.1) (fun z=>Z27_l17 a0 y8_id11_3 z.1 z.2.1 z.2.2=some r) ((a0.FDefs.l.length+1),0,TDoc.zero) hE wA ?_
  rintro ⟨n17,s25_18,y19_l1⟩ hE K17 hK17;try dsimp only at hE
  cases n17 with
  | zero=>cases hE
  | succ n17 =>
    rw [Z27_l17] at hE;refine seqR (S BI (nil ?_));refine seqK fun K21 hK21=>?_;refine cE hE (fun hc22 hE=>?_) (fun hc22 hE=>?_)
    ·try dsimp only at hc22
     have hf22:=oD hc22;refine sk hK21 ?_;clear hK21 K21;refine seqJ (TA 2 (TA 3 (TA 7 (TA 8 (TA 23 (TA 24 (TA 25 kN))))))) (fun(z:TDoc)=>[]) (fun z=>[TDoc.c TDoc.zero,([Sl.d 7 TDef.c (some tk7_10) z.FDefs])]) (fun z=>(((H.set id11_3 (some (.map (seenM y8_id11_3)))).set id4_5 (some (.cells [.func 18 [.view (TDoc.c a0),.view [.map id11_3],.ptr id4_5 0]]))).set tk7_10 (some (.tok 7 z.FDefs.l.length)))) (fun z=>Z27_j23 s25_18 ((Z27_l17 a0 y8_id11_3 n17)) z=some r) ?_ ?_
     ·intro K23 hK23;refine block ?_;refine seqR ?_;obtain⟨x26,gx26,hE⟩:=bO hE;refine S (ix TDef.c s25_18 gx26) (S Ld ?_);refine Sl ?_;refine Sf ?_;refine nil ?_;refine freezeA 10 _ rfl (KA 2 (KA 3 (KA 7 (KA 8 (KA 23 (KA 24 (KA 25 Keeps.nil))))))) ?_;refine seqR (S Ld (S Fv (S Ld ?_)));refine s0 (lookupSeen (TK rfl) rfl (TK rfl) (TK rfl) rfl rfl rfl rfl hpG) rfl ?_;refine nil ?_;refine cE hE (fun hc28 hE=>?_) (fun hc28 hE=>?_)
      ·refine AWp.draw rfl ?_;refine Sd FL (Sd LL (Sd Ld (Sd Ld ?_)));obtain⟨x29,gx29,hE⟩:=bO hE;refine Scd rfl rfl (Z39_walk gx29) ?_;refine Sd BV ?_;obtain⟨x30,gx30,hE⟩:=bO hE;refine DOps.sH (appM (f:=TDef.c) (TK rfl) rfl (TK rfl) (TK rfl) ⟨_,rfl⟩ rfl rfl (by decide) rfl rfl rfl rfl hpG rfl gx30) rfl ?_;refine DOps.Dh (((H.set id11_3 (some (.map (seenM y8_id11_3)))).set id4_5 (some (.cells [.func 18 [.view (TDoc.c a0),.view [.map id11_3],.ptr id4_5 0]]))).set tk7_10 (some (.tok 7 x30.l.length))) ?_
       refine Sd FL ?_;refine DOps.sLn (storeL1 (TK rfl) rfl rfl rfl rfl (by repeat (first|exact SetAt.zero|apply SetAt.succ)) (by repeat (first|exact SetAt.zero|apply SetAt.succ))) ?_;refine DOps.nil (by decide +kernel) ?_;exact hK23 _ (TDoc.mk x30) wA hE
      refine AWp.skip ?_;exact hK23 _ y19_l1 wA hE
     rintro y24_l1 hE;try dsimp only at hE
     unfold Z27_j23 at hE;refine region ?_;refine SI ?_;refine S Mv (nil ?_);exact hK17 _ (n17,(s25_18+1),y24_l1) wA hE (nS _)
    refine AWp.exit ?_;exact hK12 _ y19_l1 wA hE
 rintro y13_l1 hE;try dsimp only at hE
 unfold Z27_j12 at hE;refine seqK fun K14 hK14=>?_;refine AWp.relocal 1 _ rfl (fun j w cs hh hx=>untok_cell 0 hx rfl) ?_;refine region ?_;refine S LL ?_;refine Sf ?_;refine nil ?_;refine hK14 _ ?_;clear hK14 K14;refine AWp.ret ?_;repeat (first|refine xBlock_ret ?_|refine xThen_ret ?_)
 obtain rfl:=oJ hE;refine retQ.retF H rfl ⟨rfl,rfl⟩ ?_;intro id_ o_ he_;have e_id11_3:id_≠id11_3:=fun e_=>by subst e_; simp_all [Heap.set]
 have e_id4_5:id_≠id4_5:=fun e_=>by subst e_; simp_all [Heap.set]
 have e_tk7_10:id_≠tk7_10:=fun e_=>by subst e_; simp_all [Heap.set]
 rw [<- he_];simp only [Heap.set] at he_ ⊢
 (repeat' split)<;>simp_all
end Go.Proofs
