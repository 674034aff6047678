import Derived.Test.YtaebblbgdccamaaGreatV3
set_option maxRecDepth 100000
set_option maxHeartbeats 2000000
set_option linter.unusedVariables false
set_option linter.unusedSimpArgs false
namespace Go.Proofs
open Go Go.Ab
open AOps Cert AWp Keeps KeepsT
variable {lou:Lou}
def Z11_j5  (y6_id11_3:Z0):Option (Sl Z4):=some y6_id11_3.Fout
def Z11_j16 (s15_11:Nat) (k_next_10:Nat->Z0->Option (Sl Z4)) (y17_id11_3:Z0):Option (Sl Z4):=k_next_10 (s15_11+1) y17_id11_3
def Z11_j34 (s31_29:Nat) (k_next_28:Nat->Z0->Option (Sl Z4)) (y35_id11_3:Z0):Option (Sl Z4):=k_next_28 (s31_29+1) y35_id11_3
def Z11_j40 (x19:TDef) (s31_29:Nat) (y30_id11_3:Z0) (x37:Z8) (k_next_28:Nat->Z0->Option (Sl Z4)) (s8_41:Int):Option (Sl Z4):=bif (!decide (s8_41=(0:Int))) then((catC x19.FName ([46]:Bs)).bind fun x44=>(catC x44 x37.FName).bind fun x45=>(Z18 y30_id11_3 s8_41 x45).bind fun x46=>Z11_j34 s31_29 k_next_28 x46) else(Z11_j34 s31_29 k_next_28 y30_id11_3)
def Z11_l28 (s15_11:Nat) (x19:TDef) (k_next_10:Nat->Z0->Option (Sl Z4)):Nat->Nat->Z0->Option (Sl Z4)
 | 0,_,_=>none
 | n28+1,s31_29,y30_id11_3=>bif (decide (((s31_29:Nat):Int)<((x19.FMembers.l.length:Nat):Int))) then((x19.FMembers.l[s31_29]?).bind fun x37=>(Z20 y30_id11_3 x37.FName (1:Int)).bind fun x39=>guardO ((decide (x39=(0:Int)))) (partC x19.FMembers none (some ((s31_29:Nat):Int))) (Sl.nil:Sl Z8) fun x48=>guardO ((decide (x39=(0:Int)))) (Z107 x48 (fun y0=>Z12 y0 x37)) false fun x49=>bif ((decide (x39=(0:Int)))&&x49) then(Z11_j40 x19 s31_29 y30_id11_3 x37 ((Z11_l28 s15_11 x19 k_next_10 n28)) (7:Int)) else(Z11_j40 x19 s31_29 y30_id11_3 x37 ((Z11_l28 s15_11 x19 k_next_10 n28)) x39)) else(Z11_j16 s15_11 k_next_10 y30_id11_3)
def Z11_l10 (a0:TDoc) :Nat->Nat->Z0->Option (Sl Z4)
 | 0,_,_=>none
 | n10+1,s15_11,y12_id11_3=>bif (decide (((s15_11:Nat):Int)<((a0.FDefs.l.length:Nat):Int))) then((a0.FDefs.l[s15_11]?).bind fun x19=>bif (decide (x19.FKind=(1:Int))) then((Z21 y12_id11_3 x19).bind fun x23=>Z11_j16 s15_11 ((Z11_l10 a0 n10)) x23) else(bif (decide (x19.FKind=(3:Int))) then(Z11_l28 s15_11 x19 ((Z11_l10 a0 n10)) (x19.FMembers.l.length+1) 0 y12_id11_3) else(Z11_j16 s15_11 ((Z11_l10 a0 n10)) y12_id11_3))) else(Z11_j5   y12_id11_3)
def Z11 (a0:TDoc):Option (Sl Z4):=Z11_l10 a0 (a0.FDefs.l.length+1) 0 (Z0.mk a0 (Sl.nil:Sl Z4))
theorem Z11_walk {a0:TDoc}{r:Sl Z4}(hE:Z11 a0=some r) (H:Heap) :ACalls Tryz.prog 6 [.agg (TDoc.c a0)] H fun v h'=>v=.a (.d (Sl.d 2 Z4.c none r))/\h'=H:=by
 unfold Z11 at hE;refine ACalls.oW 67 [.tmp 2] Tryz.call6 Tryz.func6 ?_;refine seqR (S BX ?_);refine s0 (assignNil (k':=2) rfl) rfl ?_;refine nil ?_;refine seqR (S Ld (S BU ?_));refine AOps.tok 2 fun tk11_4 htk11_4=>?_;refine sE (StepE.boxO rfl) rfl (fun _ _ _ ⟨id11_3,hid11_3,e1,e2,e3⟩=>?_); subst e1 e2 e3;obtain⟨ne_id11_3_tk11_4,hid11_3⟩:=Heap.set_fresh hid11_3;refine AOps.recell id11_3 _ hpG (fun j w cs hh hx=>tok_cell 1 2 2 hh (t:=tk11_4) hpG hx rfl) ?_
 refine hq ((H.set tk11_4 (some (.tok 2 0))).set id11_3 (some (.cells (Z0.cg (some tk11_4) (Z0.mk a0 (Sl.nil:Sl Z4)))))) ?_;refine S As (nil ?_);refine seqJH (TA 3 KeepsT.nil) (fun(z:Z0)=>[]) (fun z=>((H.set tk11_4 (some (.tok 2 z.Fout.l.length))).set id11_3 (some (.cells (Z0.cg (some tk11_4) z))))) (fun z=>Z11_j5 z=some r) ?_ ?_
 ·intro K5 hK5;refine seqR (S Fv (S Ld ?_));refine sLen (f:=TDef.c) (s:=a0.FDefs) (TK rfl) rfl rfl rfl rfl fun hL9=>?_;refine S Mv (nil ?_);refine block ?_;refine loopH (TA 3 (TA 13 (TA 14 KeepsT.nil))) (fun(z:Nat×Nat×Z0)=>[(15,.a (.d (.int .i64 ((z.2.1:Nat):Int))))]) (fun z=>((H.set tk11_4 (some (.tok 2 z.2.2.Fout.l.length))).set id11_3 (some (.cells (Z0.cg (some tk11_4) z.2.2))))) (fun z=>z.1) (fun z=>Z11_l10 a0 z.1 z.2.1 z.2.2=some r) ((a0.FDefs.l.length+1),0,(Z0.mk a0 (Sl.nil:Sl Z4))) hE Weak.toA ?_
  rintro ⟨n10,s15_11,y12_id11_3⟩ hE K10 hK10;try dsimp only at hE
  cases n10 with
  | zero=>cases hE
  | succ n10 =>
    rw [Z11_l10] at hE;refine seqR (S BI (nil ?_));refine seqK fun K14 hK14=>?_;refine cE hE (fun hc15 hE=>?_) (fun hc15 hE=>?_)
    ·try dsimp only at hc15
     have hf15:=of_decide_eq_true hc15;refine sk hK14 ?_;clear hK14 K14;refine seqJH (TA 3 (TA 13 (TA 14 (TA 15 KeepsT.nil)))) (fun(z:Z0)=>[]) (fun z=>((H.set tk11_4 (some (.tok 2 z.Fout.l.length))).set id11_3 (some (.cells (Z0.cg (some tk11_4) z))))) (fun z=>Z11_j16 s15_11 ((Z11_l10 a0 n10)) z=some r) ?_ ?_
     ·intro K16 hK16;refine block ?_;refine seqR ?_;obtain⟨x19,gx19,hE⟩:=bO hE;refine S (ix TDef.c s15_11 gx19) (S Ld ?_);refine Sl ?_;refine Sf ?_;refine nil ?_;refine freezeA 5 _ rfl (KA 3 (KA 13 (KA 14 (KA 15 Keeps.nil)))) ?_;refine seqR (S Fv (S Ld (nil ?_)));refine block ?_;refine seqR (S BI (S As (nil ?_)));refine cE hE (fun hc22 hE=>?_) (fun hc22 hE=>?_)
      ·refine region ?_;refine S Mv (S Ld ?_);obtain⟨x23,gx23,hE⟩:=bO hE;refine sH (callH rfl rfl (Z21_walk gx23 _ hpG hpG)) rfl ?_;refine hq ((H.set tk11_4 (some (.tok 2 x23.Fout.l.length))).set id11_3 (some (.cells (Z0.cg (some tk11_4) x23)))) ?_;refine nil ?_;exact hK16 _ x23 Weak.toA hE
      refine seqR (S BI (S As (nil ?_)));refine cE hE (fun hc25 hE=>?_) (fun hc25 hE=>?_)
      ·refine seqR (S Fv (S Ld ?_));refine sLen (f:=Z8.c) (s:=x19.FMembers) (TK rfl) rfl rfl rfl rfl fun hL27=>?_;refine S Mv (nil ?_);refine block ?_;refine loopH (TA 3 (TA 5 (TA 13 (TA 14 (TA 15 (TA 29 (TA 30 KeepsT.nil))))))) (fun(z:Nat×Nat×Z0)=>[(31,.a (.d (.int .i64 ((z.2.1:Nat):Int))))]) (fun z=>((H.set tk11_4 (some (.tok 2 z.2.2.Fout.l.length))).set id11_3 (some (.cells (Z0.cg (some tk11_4) z.2.2))))) (fun z=>z.1) (fun z=>Z11_l28 s15_11 x19 ((Z11_l10 a0 n10)) z.1 z.2.1 z.2.2=some r) ((x19.FMembers.l.length+1),0,y12_id11_3) hE Weak.toA ?_
       rintro ⟨n28,s31_29,y30_id11_3⟩ hE K28 hK28;try dsimp only at hE
       cases n28 with
       | zero=>cases hE
       | succ n28 =>
         rw [Z11_l28] at hE;refine seqR (S BI (nil ?_));refine seqK fun K32 hK32=>?_;refine cE hE (fun hc33 hE=>?_) (fun hc33 hE=>?_)
         ·try dsimp only at hc33
          have hf33:=of_decide_eq_true hc33;refine sk hK32 ?_;clear hK32 K32;refine seqJH (TA 3 (TA 5 (TA 13 (TA 14 (TA 15 (TA 29 (TA 30 (TA 31 KeepsT.nil)))))))) (fun(z:Z0)=>[]) (fun z=>((H.set tk11_4 (some (.tok 2 z.Fout.l.length))).set id11_3 (some (.cells (Z0.cg (some tk11_4) z))))) (fun z=>Z11_j34 s31_29 ((Z11_l28 s15_11 x19 ((Z11_l10 a0 n10)) n28)) z=some r) ?_ ?_
          ·intro K34 hK34;refine block ?_;refine seqR (S Mv ?_);obtain⟨x37,gx37,hE⟩:=bO hE;refine S (ix Z8.c s31_29 gx37) (S Ld ?_);refine Sl ?_;refine S As ?_;refine Sf ?_;refine nil ?_;refine freezeA 7 _ rfl (KA 3 (KA 5 (KA 6 (KA 13 (KA 14 (KA 15 (KA 29 (KA 30 (KA 31 Keeps.nil))))))))) ?_;refine seqR (S Mv (S Fv (S Ld ?_)));obtain⟨x39,gx39,hE⟩:=bO hE;refine s0 (callR rfl rfl (Z20_walk gx39 _ hpG)) rfl ?_
           refine S As (nil ?_);refine seqJH (TA 3 (TA 5 (TA 7 (TA 13 (TA 14 (TA 15 (TA 29 (TA 30 (TA 31 KeepsT.nil))))))))) (fun(z:Int)=>[(8,.a (.d (.int .i64 z)))]) (fun z=>((H.set tk11_4 (some (.tok 2 y30_id11_3.Fout.l.length))).set id11_3 (some (.cells (Z0.cg (some tk11_4) y30_id11_3))))) (fun z=>Z11_j40 x19 s31_29 y30_id11_3 x37 ((Z11_l28 s15_11 x19 ((Z11_l10 a0 n10)) n28)) z=some r) ?_ ?_
           ·intro K40 hK40;refine seqR (S Mv (S BI (S Mv (G0 Fv ?_))));refine G1 43 rfl Ld ?_;refine G0 Mv ?_;obtain⟨x48,gx48,hE⟩:=gO hE;refine gC rfl rfl (fun hC=>ungdA (k:=44) rfl (ungdA (k:=45) rfl (partM (f:=Z8.c) (l:=none) (r:=(some ((s31_29:Nat):Int))) (TK rfl) rfl (TK rfl) rfl rfl trivial rfl (gx48 hC)))) rfl ?_;refine gC rfl rfl (fun hC=>makeFunc rfl) rfl ?_;obtain⟨x49,gx49,hE⟩:=gO hE;refine gC rfl rfl (fun hC=>ungdA (k:=46) rfl (ungdA (k:=47) rfl (callP rfl rfl (fun H=>Z107_walk (gx49 hC) H (fun _ _ hx=>Z12_walk hx))))) rfl ?_
            refine S PA (nil ?_);refine cE hE (fun hc50 hE=>?_) (fun hc50 hE=>?_)
            ·refine region ?_;refine S As (nil ?_);exact hK40 _ (7:Int) Weak.toA hE
            refine AWp.skip ?_;exact hK40 _ x39 Weak.toA hE
           rintro s8_41 hE;try dsimp only at hE
           unfold Z11_j40 at hE;refine seqR (S Mv (S BI (nil ?_)));refine cE hE (fun hc43 hE=>?_) (fun hc43 hE=>?_)
           ·refine region ?_;refine S Mv (S Mv (S Fv (S Ld ?_)));obtain⟨x44,gx44,hE⟩:=bO hE;refine s0 (catM rfl rfl gx44) rfl ?_;refine S Fv (S Ld ?_);obtain⟨x45,gx45,hE⟩:=bO hE;refine s0 (catM rfl rfl gx45) rfl ?_;obtain⟨x46,gx46,hE⟩:=bO hE;refine sH (callH rfl rfl (Z18_walk gx46 _ hpG hpG)) rfl ?_;refine hq ((H.set tk11_4 (some (.tok 2 x46.Fout.l.length))).set id11_3 (some (.cells (Z0.cg (some tk11_4) x46)))) ?_
            refine nil ?_;exact hK34 _ x46 Weak.toA hE
           refine AWp.skip ?_;exact hK34 _ y30_id11_3 Weak.toA hE
          rintro y35_id11_3 hE;try dsimp only at hE
          unfold Z11_j34 at hE;refine region ?_;refine SI ?_;refine S Mv (nil ?_);exact hK28 _ (n28,(s31_29+1),y35_id11_3) Weak.toA hE (Nat.lt_succ_self _)
         refine AWp.exit ?_;exact hK16 _ y30_id11_3 Weak.toA hE
      refine AWp.skip ?_;exact hK16 _ y12_id11_3 Weak.toA hE
     rintro y17_id11_3 hE;try dsimp only at hE
     unfold Z11_j16 at hE;refine region ?_;refine SI ?_;refine S Mv (nil ?_);exact hK10 _ (n10,(s15_11+1),y17_id11_3) Weak.toA hE (Nat.lt_succ_self _)
    refine AWp.exit ?_;exact hK5 _ y12_id11_3 Weak.toA hE
 rintro y6_id11_3 hE;try dsimp only at hE
 unfold Z11_j5 at hE;refine seqR (S Mv (S NP ?_));refine s0 (fieldP (TK rfl) rfl rfl (TK rfl) rfl rfl) rfl ?_;refine s0 (loadP (TK rfl) rfl rfl hpG rfl) rfl ?_;refine S As (nil ?_);refine AWp.dropTok 2 rfl ?_;refine AWp.ret ?_;repeat (first|refine xBlock_ret ?_|refine xThen_ret ?_)
 obtain rfl:=Option.some.inj hE;refine retQ.retF H rfl ⟨rfl,rfl⟩ ?_;intro id_ o_ he_;have e_tk11_4:id_≠tk11_4:=fun e_=>by subst e_; simp_all [Heap.set]
 have e_id11_3:id_≠id11_3:=fun e_=>by subst e_; simp_all [Heap.set]
 rw [<- he_];simp only [Heap.set] at he_ ⊢
 (repeat' split)<;>simp_all
def Z92 (a0:Int):Option Bs:=bif (decide (a0=(1:Int))) then(some ([81,117,101,114,121]:Bs)) else(bif (decide (a0=(2:Int))) then(some ([77,117,116,97,116,105,111,110]:Bs)) else(bif (decide (a0=(3:Int))) then(some ([83,117,98,115,99,114,105,112,116,105,111,110]:Bs)) else(some ([]:Bs))))
theorem Z92_walk {a0:Int}{r:Bs}(hE:Z92 a0=some r) (H:Heap) :ACalls Tryz.prog 11 [.d (.int .i64 a0)] H fun v h'=>v=.a (.d (.str r))/\h'=H:=by
 unfold Z92 at hE;refine ACalls.oW 10 [.tmp 2] Tryz.call11 Tryz.func11 ?_;refine seqR (S As (nil ?_));refine seqK fun K2 hK2=>?_;refine seqR (S Mv (nil ?_));refine block ?_;refine seqR (S BI (S As (nil ?_)));refine cE hE (fun hc5 hE=>?_) (fun hc5 hE=>?_)
 ·refine seqR (S As (nil ?_));exact rt hE
 refine seqR (S BI (S As (nil ?_)));refine cE hE (fun hc8 hE=>?_) (fun hc8 hE=>?_)
 ·refine seqR (S As (nil ?_));exact rt hE
 refine seqR (S BI (S As (nil ?_)));refine cE hE (fun hc11 hE=>?_) (fun hc11 hE=>?_)
 ·refine seqR (S As (nil ?_));exact rt hE
 refine sk hK2 ?_;clear hK2 K2;refine seqR (S As (nil ?_));exact rt hE
def Z39 (a0:Z2) (a1:Bool) (a2:Int) (a3:Bs):Option Z2:=bif a1 then((appC 24 a0.Fout (⟨false,[(Z4.mk a2 a3)]⟩:Sl Z4)).bind fun x3=>some (Z2.mk a0.Fd a0.Fq x3)) else(some a0)
theorem Z39_walk {a0:Z2}{a1:Bool}{a2:Int}{a3:Bs}{c0 c0_2:Nat}{r:Z2}(hE:Z39 a0 a1 a2 a3=some r) (H:Heap) (hc0:H c0=some (.cells (Z2.cg (some c0_2) a0))) (ht0_2:H c0_2=some (.tok 2 a0.Fout.l.length)):ACalls Tryz.prog 26 [.d (.ptr c0 0),.d (.bool a1),.d (.int .i64 a2),.d (.str a3)] H fun v h'=>v=.tup []/\h'=((H.set c0_2 (some (.tok 2 r.Fout.l.length))).set c0 (some (.cells (Z2.cg (some c0_2) r)))):=by
 unfold Z39 at hE;refine ACalls.oW 21 [] Tryz.call26 Tryz.func26 ?_;have ne_c0_c0_2:c0≠c0_2:=fun e_=>by subst e_; simp_all
 refine AWp.heqA (h':=((H.set c0_2 (some (.tok 2 a0.Fout.l.length))).set c0 (some (.cells (Z2.cg (some c0_2) a0))))) (by funext n_; simp only [Heap.set]; (repeat' split)<;>simp_all) ?_;refine seqR (S Mv (nil ?_));refine cE hE (fun hc2 hE=>?_) (fun hc2 hE=>?_)
 ·refine region ?_;refine S Mv (S Mv (S NP ?_));refine s0 (fieldP (TK rfl) rfl rfl (TK rfl) rfl rfl) rfl ?_;refine s0 (loadP (TK rfl) rfl rfl hpG rfl) rfl ?_;refine S Mv (S Mv (S BU (S BV ?_)));obtain⟨x3,gx3,hE⟩:=bO hE;refine SH (am Z4.c (TK rfl) rfl (TK rfl) (TK rfl) gx3) ?_;refine hq ((H.set c0_2 (some (.tok 2 x3.l.length))).set c0 (some (.cells (Z2.cg (some c0_2) a0)))) ?_;refine S NP ?_;refine s0 (fieldP (TK rfl) rfl rfl (TK rfl) rfl rfl) rfl ?_
  refine sHn (storeP1 (TK rfl) rfl rfl hpG rfl (by repeat (first|exact SetAt.zero|apply SetAt.succ))) rfl rfl ?_;refine hq ((H.set c0_2 (some (.tok 2 x3.l.length))).set c0 (some (.cells (Z2.cg (some c0_2) (Z2.mk a0.Fd a0.Fq x3))))) ?_;refine nil ?_;repeat (first|refine xBlock_normal ?_|refine xThen_exit ?_|refine xBlock_exit ?_)
  obtain rfl:=Option.some.inj hE;refine retQ.normalF ((H.set c0_2 (some (.tok 2 x3.l.length))).set c0 (some (.cells (Z2.cg (some c0_2) (Z2.mk a0.Fd a0.Fq x3))))) (xs:=[]) rfl ⟨rfl,rfl⟩ ?_;exact(fun _ _ h=>h)
 refine AWp.skip ?_;repeat (first|refine xBlock_normal ?_|refine xThen_exit ?_|refine xBlock_exit ?_)
 obtain rfl:=Option.some.inj hE;refine retQ.normalF ((H.set c0_2 (some (.tok 2 a0.Fout.l.length))).set c0 (some (.cells (Z2.cg (some c0_2) a0)))) (xs:=[]) rfl ⟨rfl,rfl⟩ ?_;exact(fun _ _ h=>h)
def Z86 (a0:TDoc) (a1:Bs):Option Bool:=(Z103 a0 a1).bind fun x3=>(Z93 a1).bind fun x5=>some ((!x5)&&(((decide (x3=(1:Int)))||(decide (x3=(2:Int))))||(decide (x3=(3:Int)))))
theorem Z86_walk {a0:TDoc}{a1:Bs}{r:Bool}(hE:Z86 a0 a1=some r) (H:Heap) :ACalls Tryz.prog 27 [.agg (TDoc.c a0),.d (.str a1)] H fun v h'=>v=.a (.d (.bool r))/\h'=H:=by
 unfold Z86 at hE;refine ACalls.oW 24 [.tmp 4] Tryz.call27 Tryz.func27 ?_;refine seqR (S BX (S As (nil ?_)));refine seqR (S Ld (S Mv ?_));obtain⟨x3,gx3,hE⟩:=bO hE;refine Sc rfl rfl (Z103_walk gx3) ?_;refine S As (nil ?_);refine seqR (S Mv ?_);obtain⟨x5,gx5,hE⟩:=bO hE;refine Sc rfl rfl (Z93_walk gx5) ?_;refine S NB (S Mv (G0 Mv ?_));refine G1 13 rfl BI ?_;refine G1 14 rfl Mv ?_;refine G0 Mv ?_;refine G1 16 rfl BI ?_
 refine gC rfl rfl (fun hC=>ungdA (k:=15) rfl (pickOrA rfl rfl rfl)) rfl ?_;refine G1 18 rfl Mv ?_;refine G0 Mv ?_;refine G1 20 rfl BI ?_;refine gC rfl rfl (fun hC=>ungdA (k:=19) rfl (pickOrA rfl rfl rfl)) rfl ?_;refine S PA (S As (nil ?_));exact rt hE
def Z38_j2  (y3_l0:Z6):Option (Z6×Bool):=some ((Z6.mk ([]:Bs) ([]:Bs) (Sl.nil:Sl TSel)),false)
def Z38_l7 (a0:Z9) (a1:Bs) :Nat->Nat->Z6->Option (Z6×Bool)
 | 0,_,_=>none
 | n7+1,s11_8,y9_l0=>bif (decide (((s11_8:Nat):Int)<((a0.FFrags.l.length:Nat):Int))) then((a0.FFrags.l[s11_8]?).bind fun x15=>bif ((x15.FName==a1)) then(some (x15,true)) else((Z38_l7 a0 a1 n7) (s11_8+1) y9_l0)) else(Z38_j2   y9_l0)
def Z38 (a0:Z9) (a1:Bs):Option (Z6×Bool):=Z38_l7 a0 a1 (a0.FFrags.l.length+1) 0 Z6.zero
theorem Z38_walk {a0:Z9}{a1:Bs}{r:Z6×Bool}(hE:Z38 a0 a1=some r) (H:Heap) :ACalls Tryz.prog 54 [.agg (Z9.c a0),.d (.str a1)] H fun v h'=>v=.tup [.agg (Z6.c r.1),.d (.bool r.2)]/\h'=H:=by
 unfold Z38 at hE;refine ACalls.oW 22 [.cell 4 42,.tmp 5] Tryz.call54 Tryz.func54 ?_;refine seqR (S BX ?_);refine Sl ?_;refine S As (nil ?_);refine seqJ (TA 4 KeepsT.nil) (fun(z:Z6)=>[]) (fun z=>[Z6.c z]) (fun z=>H) (fun z=>Z38_j2 z=some r) ?_ ?_
 ·intro K2 hK2;refine seqR (S Fv (S Ld ?_));refine sLen (f:=Z6.c) (s:=a0.FFrags) (TK rfl) rfl rfl rfl rfl fun hL6=>?_;refine S Mv (nil ?_);refine block ?_;refine loopO (TA 1 (TA 4 (TA 9 (TA 10 KeepsT.nil)))) (fun(z:Nat×Nat×Z6)=>[(11,.a (.d (.int .i64 ((z.2.1:Nat):Int))))]) (fun z=>[Z6.c z.2.2]) (fun z=>H) (fun z=>z.1) (fun z=>Z38_l7 a0 a1 z.1 z.2.1 z.2.2=some r) ((a0.FFrags.l.length+1),0,Z6.zero) hE Weak.toA ?_
  rintro ⟨n7,s11_8,y9_l0⟩ hE K7 hK7;try dsimp only at hE
  cases n7 with
  | zero=>cases hE
  | succ n7 =>
    rw [Z38_l7] at hE;refine seqR (S BI (nil ?_));refine seqK fun K11 hK11=>?_;refine cE hE (fun hc12 hE=>?_) (fun hc12 hE=>?_)
    ·try dsimp only at hc12
     have hf12:=of_decide_eq_true hc12;refine sk hK11 ?_;clear hK11 K11;refine seqK fun K13 hK13=>?_;refine block ?_;refine seqR ?_;obtain⟨x15,gx15,hE⟩:=bO hE;refine S (ix Z6.c s11_8 gx15) (S Ld ?_);refine Sl ?_;refine Sf ?_;refine nil ?_;refine freezeA 7 _ rfl (KA 1 (KA 4 (KA 9 (KA 10 (KA 11 Keeps.nil))))) ?_;refine seqR (S Fv (S Ld (S Mv (S BS (nil ?_)))));refine cE hE (fun hc17 hE=>?_) (fun hc17 hE=>?_)
     ·refine seqR (S Ld ?_);refine Sf ?_;refine S As (nil ?_);exact rt hE
     refine sk hK13 ?_;clear hK13 K13;refine region ?_;refine SI ?_;refine S Mv (nil ?_);exact hK7 _ (n7,(s11_8+1),y9_l0) Weak.toA hE (Nat.lt_succ_self _)
    refine AWp.exit ?_;exact hK2 _ y9_l0 Weak.toA hE
 rintro y3_l0 hE;try dsimp only at hE
 unfold Z38_j2 at hE;refine seqR (S BU ?_);refine Sf ?_;refine S As (nil ?_);exact rt hE
def Z116_j2  :Option Int:=some (-1:Int)
def Z116_l6 (a0:(Sl Bs)) (a1:(Bs->Option Bool)) :Nat->Nat->Option Int
 | 0,_=>none
 | n6+1,s8_7=>bif (decide (((s8_7:Nat):Int)<((a0.l.length:Nat):Int))) then((a0.l[s8_7]?).bind fun x14=>(a1 x14).bind fun x15=>bif x15 then(some ((s8_7:Nat):Int)) else((Z116_l6 a0 a1 n6) (s8_7+1))) else(Z116_j2   )
def Z116 (a0:(Sl Bs)) (a1:(Bs->Option Bool)):Option Int:=Z116_l6 a0 a1 (a0.l.length+1) 0
theorem Z116_walk {a0:Sl Bs}{a1:Bs->Option Bool}{w0:Option Nat}{cl1:List D}{k1:Nat}{r:Int}(hE:Z116 a0 a1=some r) (H:Heap) (hf1:∀x0 r,a1 x0=some r->∀H,ACalls Tryz.prog k1 ([.d (.str x0)]++cl1.map A.d) H fun v h'=>v=.a (.d (.bool r))/\h'=H):ACalls Tryz.prog 114 [.d (Sl.d 1 strE w0 a0),.d (.func k1 cl1)] H fun v h'=>v=.a (.d (.int .i64 r))/\h'=H:=by
 unfold Z116 at hE;refine ACalls.oW 19 [.tmp 4] Tryz.call114 Tryz.func114 ?_;refine seqR (S As (nil ?_));refine seqJH KeepsT.nil (fun(z:Unit)=>[]) (fun z=>H) (fun z=>Z116_j2 =some r) ?_ ?_
 ·intro K2 hK2;refine seqR (S Mv ?_);refine sLen (f:=strE) (s:=a0) (TK rfl) rfl rfl rfl rfl fun hL5=>?_;refine S Mv (nil ?_);refine block ?_;refine loopH (TA 0 (TA 1 (TA 7 KeepsT.nil))) (fun(z:Nat×Nat)=>[(8,.a (.d (.int .i64 ((z.2:Nat):Int))))]) (fun z=>H) (fun z=>z.1) (fun z=>Z116_l6 a0 a1 z.1 z.2=some r) ((a0.l.length+1),0) hE Weak.toA ?_;rintro ⟨n6,s8_7⟩ hE K6 hK6;try dsimp only at hE
  cases n6 with
  | zero=>cases hE
  | succ n6 =>
    rw [Z116_l6] at hE;refine seqR (S BI (nil ?_));refine seqK fun K9 hK9=>?_;refine cE hE (fun hc10 hE=>?_) (fun hc10 hE=>?_)
    ·try dsimp only at hc10
     have hf10:=of_decide_eq_true hc10;refine sk hK9 ?_;clear hK9 K9;refine seqK fun K11 hK11=>?_;refine block ?_;refine seqR (S Mv (S As (nil ?_)));refine seqR (S Mv (S Mv (S Mv ?_)));obtain⟨x14,gx14,hE⟩:=bO hE;refine S (ix strE s8_7 gx14) (S Ld ?_);obtain⟨x15,gx15,hE⟩:=bO hE;refine s0 (callP rfl rfl (hf1 _ _ gx15)) rfl ?_;refine nil ?_;refine cE hE (fun hc16 hE=>?_) (fun hc16 hE=>?_)
     ·refine seqR (S Mv (S As (nil ?_)));exact rt hE
     refine sk hK11 ?_;clear hK11 K11;refine region ?_;refine SI ?_;refine S Mv (nil ?_);exact hK6 _ (n6,(s8_7+1)) Weak.toA hE (Nat.lt_succ_self _)
    refine AWp.exit ?_;exact hK2 _ () Weak.toA hE
 rintro _ hE;try dsimp only at hE
 unfold Z116_j2 at hE;refine seqR (S As (nil ?_));exact rt hE
def Z109 (a0:(Sl Bs)) (a1:(Bs->Option Bool)):Option Bool:=(Z116 a0 a1).bind fun x3=>some (decide ((0:Int)<=x3))
theorem Z109_walk {a0:Sl Bs}{a1:Bs->Option Bool}{w0:Option Nat}{cl1:List D}{k1:Nat}{r:Bool}(hE:Z109 a0 a1=some r) (H:Heap) (hf1:∀x0 r,a1 x0=some r->∀H,ACalls Tryz.prog k1 ([.d (.str x0)]++cl1.map A.d) H fun v h'=>v=.a (.d (.bool r))/\h'=H):ACalls Tryz.prog 107 [.d (Sl.d 1 strE w0 a0),.d (.func k1 cl1)] H fun v h'=>v=.a (.d (.bool r))/\h'=H:=by
 unfold Z109 at hE;refine ACalls.oW 9 [.tmp 4] Tryz.call107 Tryz.func107 ?_;refine seqR (S As (nil ?_));refine seqR (S Mv (S Mv ?_));obtain⟨x3,gx3,hE⟩:=bO hE;refine s0 (callP rfl rfl (fun H=>Z116_walk gx3 H hf1)) rfl ?_;refine S BI (S As (nil ?_));exact rt hE
def Z15 (a0:Bs) (a1:(Sl Bs)):Option Bool:=(Z110 a1 a0).bind fun x3=>some x3
theorem Z15_walk {a0:Bs}{a1:Sl Bs}{r:Bool}(hE:Z15 a0 a1=some r) (H:Heap) :ACalls Tryz.prog 108 [.d (.str a0),.d (.view ((fun s=>[Sl.d 1 strE none s]) a1))] H fun v h'=>v=.a (.d (.bool r))/\h'=H:=by
 unfold Z15 at hE;refine ACalls.oW 7 [.tmp 3] Tryz.call108 Tryz.func108 ?_;refine seqR (S As (nil ?_));refine seqR (S Ld (S Mv ?_));obtain⟨x3,gx3,hE⟩:=bO hE;refine Sc rfl rfl (Z110_walk gx3) ?_;refine S As (nil ?_);exact rt hE
def Z14 (a0:TDoc) (a1:Bs) (a2:Bs):Option Bool:=(Z16 a0 a2).bind fun x3=>(Z16 a0 a1).bind fun x5=>(Z109 x5 (fun y0=>Z15 y0 x3)).bind fun x6=>some x6
theorem Z14_walk {a0:TDoc}{a1 a2:Bs}{r:Bool}(hE:Z14 a0 a1 a2=some r) (H:Heap) :ACalls Tryz.prog 86 [.agg (TDoc.c a0),.d (.str a1),.d (.str a2)] H fun v h'=>v=.a (.d (.bool r))/\h'=H:=by
 unfold Z14 at hE;refine ACalls.oW 16 [.tmp 6] Tryz.call86 Tryz.func86 ?_;refine seqR (S BX (S As (nil ?_)));refine seqR (S Ld (S Mv ?_));obtain⟨x3,gx3,hE⟩:=bO hE;refine Sc rfl rfl (Z16_walk gx3) ?_;refine Sl ?_;refine Sf ?_;refine nil ?_;refine freezeA 7 _ rfl (KA 1 (KA 3 Keeps.nil)) ?_;refine seqR (S Ld (S Mv ?_));obtain⟨x5,gx5,hE⟩:=bO hE;refine Sc rfl rfl (Z16_walk gx5) ?_;refine s0 (makeFunc rfl) rfl ?_
 obtain⟨x6,gx6,hE⟩:=bO hE;refine s0 (callP rfl rfl (fun H=>Z109_walk gx6 H (fun _ _ hx=>Z15_walk hx))) rfl ?_;refine S As (nil ?_);exact rt hE
def Z40 (a0:Z2) (a1:Bs) (a2:Bs):Option Bool:=(Z86 a0.Fd a1).bind fun x3=>guardO (x3) (Z14 a0.Fd a1 a2) false fun x4=>some (x3&&(!x4))
theorem Z40_walk {a0:Z2}{a1 a2:Bs}{q0_2:Option Nat}{c0:Nat}{r:Bool}(hE:Z40 a0 a1 a2=some r) (H:Heap) (hc0:H c0=some (.cells (Z2.cg q0_2 a0))):ACalls Tryz.prog 55 [.d (.ptr c0 0),.d (.str a1),.d (.str a2)] H fun v h'=>v=.a (.d (.bool r))/\h'=H:=by
 unfold Z40 at hE;refine ACalls.oW 23 [.tmp 6] Tryz.call55 Tryz.func55 ?_;refine seqR (S As (nil ?_));refine seqR (S Mv (S NP ?_));refine s0 (fieldP (TK rfl) rfl rfl (TK rfl) rfl rfl) rfl ?_;refine s0 (loadP (TK rfl) rfl rfl hpG rfl) rfl ?_;refine S Mv ?_;obtain⟨x3,gx3,hE⟩:=bO hE;refine Sc rfl rfl (Z86_walk gx3) ?_;refine S Mv (G0 Mv ?_);refine G1 14 rfl NP ?_;refine gC rfl rfl (fun hC=>ungdA (k:=15) rfl (fieldP (TK rfl) rfl rfl (TK rfl) rfl rfl)) rfl ?_
 refine gC rfl rfl (fun hC=>ungdA (k:=16) rfl (loadP (TK rfl) rfl rfl hpG rfl)) rfl ?_;refine G0 Mv (G0 Mv ?_);obtain⟨x4,gx4,hE⟩:=gO hE;refine gC rfl rfl (fun hC=>ungdA (k:=17) rfl (ungdA (k:=18) rfl (ungdA (k:=19) rfl (callP rfl rfl (fun H=>Z14_walk (gx4 hC) H))))) rfl ?_;refine G1 20 rfl NB ?_;refine S PA (S As (nil ?_));exact rt hE
end Go.Proofs

namespace Go.Proofs
open Go Go.Ab
open AOps Cert AWp Keeps KeepsT
variable {lou:Lou}
def Z41_j9 (s22_4:Nat) (k_next_3:Nat->Z2->Option Z2) (y10_c0:Z2):Option Z2:=k_next_3 (s22_4+1) y10_c0
def Z41_j26 (a3:Bs) (s22_4:Nat) (x12:TSel) (k_next_3:Nat->Z2->Option Z2) (k_rec_24:Z2->(Sl TSel)->Bs->Bs->Option Z2) (s12_27:Bs) (y28_c0:Z2):Option Z2:=(k_rec_24 y28_c0 x12.FSels s12_27 a3).bind fun x29=>Z41_j9 s22_4 k_next_3 x29
def Z41_j42 (a3:Bs) (s22_4:Nat) (y5_c0:Z2) (x12:TSel) (s14_41:Bs) (k_next_3:Nat->Z2->Option Z2) (k_rec_24:Z2->(Sl TSel)->Bs->Bs->Option Z2) (s15_43:Bs):Option Z2:=(catC a3 ([47]:Bs)).bind fun x44=>(catC x44 s14_41).bind fun x45=>(k_rec_24 y5_c0 x12.FSels s15_43 x45).bind fun x46=>Z41_j9 s22_4 k_next_3 x46
def Z41_j40 (a2:Bs) (a3:Bs) (s22_4:Nat) (y5_c0:Z2) (x12:TSel) (k_next_3:Nat->Z2->Option Z2) (k_rec_24:Z2->(Sl TSel)->Bs->Bs->Option Z2) (s14_41:Bs):Option Z2:=(Z88 y5_c0.Fd a2).bind fun x48=>guardO (x48.2) (Z86 y5_c0.Fd a2) false fun x50=>bif (x48.2&&x50) then((Z87 x48.1 x12.FName).bind fun x53=>bif x53.2 then(Z41_j42 a3 s22_4 y5_c0 x12 s14_41 k_next_3 k_rec_24 x53.1.FType.FName) else(Z41_j42 a3 s22_4 y5_c0 x12 s14_41 k_next_3 k_rec_24 ([]:Bs))) else(Z41_j42 a3 s22_4 y5_c0 x12 s14_41 k_next_3 k_rec_24 ([]:Bs))
def Z41_l3 (a1:(Sl TSel)) (a2:Bs) (a3:Bs) (k_rec_24:Z2->(Sl TSel)->Bs->Bs->Option Z2):Nat->Nat->Z2->Option Z2
 | 0,_,_=>none
 | n3+1,s22_4,y5_c0=>bif (decide (((s22_4:Nat):Int)<((a1.l.length:Nat):Int))) then((a1.l[s22_4]?).bind fun x12=>bif (decide (x12.FKind=(2:Int))) then((Z38 y5_c0.Fq x12.FName).bind fun x17=>(Z39 y5_c0 (!x17.2) (24:Int) a3).bind fun x19=>guardO (x17.2) (Z86 x19.Fd x17.1.FOn) false fun x20=>guardO ((x17.2&&x20)) (Z40 x19 a2 x17.1.FOn) false fun x21=>(Z39 x19 ((x17.2&&x20)&&x21) (25:Int) a3).bind fun x22=>Z41_j9 s22_4 ((Z41_l3 a1 a2 a3 k_rec_24 n3)) x22) else(bif (decide (x12.FKind=(3:Int))) then(bif (!(x12.FOn==([]:Bs))) then((Z86 y5_c0.Fd x12.FOn).bind fun x34=>(Z39 y5_c0 (!x34) (24:Int) a3).bind fun x36=>guardO (x34) (Z40 x36 a2 x12.FOn) false fun x37=>(Z39 x36 (x34&&x37) (25:Int) a3).bind fun x38=>Z41_j26 a3 s22_4 x12 ((Z41_l3 a1 a2 a3 k_rec_24 n3)) k_rec_24 x12.FOn x38) else(Z41_j26 a3 s22_4 x12 ((Z41_l3 a1 a2 a3 k_rec_24 n3)) k_rec_24 a2 y5_c0)) else(bif ((x12.FAlias==([]:Bs))) then(Z41_j40 a2 a3 s22_4 y5_c0 x12 ((Z41_l3 a1 a2 a3 k_rec_24 n3)) k_rec_24 x12.FName) else(Z41_j40 a2 a3 s22_4 y5_c0 x12 ((Z41_l3 a1 a2 a3 k_rec_24 n3)) k_rec_24 x12.FAlias)))) else(some y5_c0)
def Z41_n:Nat->Z2->(Sl TSel)->Bs->Bs->Option Z2
 | 0,_,_,_,_=>none
 | n+1,a0,a1,a2,a3=>Z41_l3 a1 a2 a3 (Z41_n n) (a1.l.length+1) 0 a0
theorem Z41_step (n:Nat) (ih_24:∀{a0:Z2}{a1:Sl TSel}{a2 a3:Bs}{w1:Option Nat}{c0 c0_2:Nat}{r:Z2},Z41_n n a0 a1 a2 a3=some r->∀(H:Heap) (hc0:H c0=some (.cells (Z2.cg (some c0_2) a0))) (ht0_2:H c0_2=some (.tok 2 a0.Fout.l.length)),ACalls Tryz.prog 24 [.d (.ptr c0 0),.d (Sl.d 7 TSel.c w1 a1),.d (.str a2),.d (.str a3)] H fun v h'=>v=.tup []/\h'=((H.set c0_2 (some (.tok 2 r.Fout.l.length))).set c0 (some (.cells (Z2.cg (some c0_2) r))))):∀{a0:Z2}{a1:Sl TSel}{a2 a3:Bs}{w1:Option Nat}{c0 c0_2:Nat}{r:Z2},Z41_n (n+1) a0 a1 a2 a3=some r->∀(H:Heap) (hc0:H c0=some (.cells (Z2.cg (some c0_2) a0))) (ht0_2:H c0_2=some (.tok 2 a0.Fout.l.length)),ACalls Tryz.prog 24 [.d (.ptr c0 0),.d (Sl.d 7 TSel.c w1 a1),.d (.str a2),.d (.str a3)] H fun v h'=>v=.tup []/\h'=((H.set c0_2 (some (.tok 2 r.Fout.l.length))).set c0 (some (.cells (Z2.cg (some c0_2) r)))):=by
 intro a0 a1 a2 a3 w1 c0 c0_2 r hE H hc0 ht0_2;rw [Z41_n] at hE;refine ACalls.oW 147 [] Tryz.call24 Tryz.func24 ?_;have ne_c0_c0_2:c0≠c0_2:=fun e_=>by subst e_; simp_all
 refine AWp.heqA (h':=((H.set c0_2 (some (.tok 2 a0.Fout.l.length))).set c0 (some (.cells (Z2.cg (some c0_2) a0))))) (by funext n_; simp only [Heap.set]; (repeat' split)<;>simp_all) ?_;refine seqR (S Mv ?_);refine sLen (f:=TSel.c) (s:=a1) (TK rfl) rfl rfl rfl rfl fun hL2=>?_;refine S Mv (nil ?_);refine block ?_;refine loopH (TA 0 (TA 2 (TA 3 (TA 20 (TA 21 KeepsT.nil))))) (fun(z:Nat×Nat×Z2)=>[(22,.a (.d (.int .i64 ((z.2.1:Nat):Int))))]) (fun z=>((H.set c0_2 (some (.tok 2 z.2.2.Fout.l.length))).set c0 (some (.cells (Z2.cg (some c0_2) z.2.2))))) (fun z=>z.1) (fun z=>Z41_l3 a1 a2 a3 (Z41_n n) z.1 z.2.1 z.2.2=some r) ((a1.l.length+1),0,a0) hE Weak.toA ?_
 rintro ⟨n3,s22_4,y5_c0⟩ hE K3 hK3;try dsimp only at hE
 cases n3 with
 | zero=>cases hE
 | succ n3 =>
   rw [Z41_l3] at hE;refine seqR (S BI (nil ?_));refine seqK fun K7 hK7=>?_;refine cE hE (fun hc8 hE=>?_) (fun hc8 hE=>?_)
   ·try dsimp only at hc8
    have hf8:=of_decide_eq_true hc8;refine sk hK7 ?_;clear hK7 K7;refine seqJH (TA 0 (TA 2 (TA 3 (TA 20 (TA 21 (TA 22 KeepsT.nil)))))) (fun(z:Z2)=>[]) (fun z=>((H.set c0_2 (some (.tok 2 z.Fout.l.length))).set c0 (some (.cells (Z2.cg (some c0_2) z))))) (fun z=>Z41_j9 s22_4 ((Z41_l3 a1 a2 a3 (Z41_n n) n3)) z=some r) ?_ ?_
    ·intro K9 hK9;refine block ?_;refine seqR ?_;obtain⟨x12,gx12,hE⟩:=bO hE;refine S (ix TSel.c s22_4 gx12) (S Ld ?_);refine Sl ?_;refine Sf ?_;refine nil ?_;refine freezeA 9 _ rfl (KA 0 (KA 2 (KA 3 (KA 20 (KA 21 (KA 22 Keeps.nil)))))) ?_;refine seqR (S Fv (S Ld (nil ?_)));refine block ?_;refine seqR (S BI (S As (nil ?_)));refine cE hE (fun hc15 hE=>?_) (fun hc15 hE=>?_)
     ·refine AWp.seqD (Sd Mv (Sd NP ?_));refine DOps.s0 (fieldP (TK rfl) rfl rfl (TK rfl) rfl rfl) rfl ?_;refine DOps.s0 (loadP (TK rfl) rfl rfl hpG rfl) rfl ?_;refine Sd Fv (Sd Ld ?_);obtain⟨x17,gx17,hE⟩:=bO hE;refine Scd rfl rfl (Z38_walk gx17) ?_;refine Sd Mv (Sd EX (Sd EX ?_));refine DOps.sB (TK rfl) rfl rfl ?_ (by repeat (first|exact Snoc.nil|apply Snoc.cons));refine DOps.sLn (storeLFA (TK rfl) rfl rfl rfl rfl rfl) ?_
      refine Sd As ?_;refine DOps.nil (by decide +kernel) ?_;refine freezeA 10 _ rfl (KA 0 (KA 2 (KA 3 (KA 11 (KA 20 (KA 21 (KA 22 Keeps.nil))))))) ?_;refine seqR (S Mv (S Mv (S NB (S Mv ?_))));obtain⟨x19,gx19,hE⟩:=bO hE;refine sH (callH rfl rfl (Z39_walk gx19 _ hpG hpG)) rfl ?_;refine hq ((H.set c0_2 (some (.tok 2 x19.Fout.l.length))).set c0 (some (.cells (Z2.cg (some c0_2) x19)))) ?_;refine nil ?_
      refine AWp.draw rfl ?_;refine Sd Mv (Sd Mv (Sd Mv (G0d Mv ?_)));refine G1d 92 rfl NP ?_;refine DOps.gC rfl rfl (fun hC=>ungdA (k:=93) rfl (fieldP (TK rfl) rfl rfl (TK rfl) rfl rfl)) rfl ?_;refine DOps.gC rfl rfl (fun hC=>ungdA (k:=94) rfl (loadP (TK rfl) rfl rfl hpG rfl)) rfl ?_;refine G0d Fv ?_;refine G1d 96 rfl Ld ?_;obtain⟨x20,gx20,hE⟩:=gO hE;refine Gc2d 95 97 rfl rfl rfl rfl rfl rfl (fun hC=>Z86_walk (gx20 hC)) ?_
      refine Sd PA (Sd Mv (G0d Mv (G0d Mv (G0d Fv ?_))));refine G1d 103 rfl Ld ?_;obtain⟨x21,gx21,hE⟩:=gO hE;refine DOps.gC rfl rfl (fun hC=>ungdA (k:=101) rfl (ungdA (k:=102) rfl (ungdA (k:=104) rfl (callR rfl rfl (Z40_walk (gx21 hC) _ hpG))))) rfl ?_;refine Sd PA (Sd Mv ?_);obtain⟨x22,gx22,hE⟩:=bO hE;refine DOps.sH (callH rfl rfl (Z39_walk gx22 _ hpG hpG)) rfl ?_;refine DOps.Dh ((H.set c0_2 (some (.tok 2 x22.Fout.l.length))).set c0 (some (.cells (Z2.cg (some c0_2) x22)))) ?_
      refine DOps.nil (by decide +kernel) ?_;exact hK9 _ x22 Weak.toA hE
     refine seqR (S BI (S As (nil ?_)));refine cE hE (fun hc24 hE=>?_) (fun hc24 hE=>?_)
     ·refine seqR (S Mv (S As (nil ?_)));refine seqJH (TA 0 (TA 2 (TA 3 (TA 9 (TA 20 (TA 21 (TA 22 KeepsT.nil))))))) (fun(z:Bs×Z2)=>[(12,.a (.d (.str z.1)))]) (fun z=>((H.set c0_2 (some (.tok 2 z.2.Fout.l.length))).set c0 (some (.cells (Z2.cg (some c0_2) z.2))))) (fun z=>Z41_j26 a3 s22_4 x12 ((Z41_l3 a1 a2 a3 (Z41_n n) n3)) (Z41_n n) z.1 z.2=some r) ?_ ?_
      ·intro K26 hK26;refine seqR (S Fv (S Ld (S BS (nil ?_))));refine cE hE (fun hc31 hE=>?_) (fun hc31 hE=>?_)
       ·refine seqR (S Fv (S Ld (S As (nil ?_))));refine AWp.seqD (Sd Mv (Sd NP ?_));refine DOps.s0 (fieldP (TK rfl) rfl rfl (TK rfl) rfl rfl) rfl ?_;refine DOps.s0 (loadP (TK rfl) rfl rfl hpG rfl) rfl ?_;refine Sd Fv (Sd Ld ?_);obtain⟨x34,gx34,hE⟩:=bO hE;refine Scd rfl rfl (Z86_walk gx34) ?_;refine Sd As ?_;refine DOps.nil (by decide +kernel) ?_;refine seqR (S Mv (S Mv (S NB (S Mv ?_))));obtain⟨x36,gx36,hE⟩:=bO hE
        refine sH (callH rfl rfl (Z39_walk gx36 _ hpG hpG)) rfl ?_;refine hq ((H.set c0_2 (some (.tok 2 x36.Fout.l.length))).set c0 (some (.cells (Z2.cg (some c0_2) x36)))) ?_;refine nil ?_;refine region ?_;refine S Mv (S Mv (S Mv (G0 Mv (G0 Mv (G0 Fv ?_)))));refine G1 134 rfl Ld ?_;obtain⟨x37,gx37,hE⟩:=gO hE;refine gC rfl rfl (fun hC=>ungdA (k:=132) rfl (ungdA (k:=133) rfl (ungdA (k:=135) rfl (callR rfl rfl (Z40_walk (gx37 hC) _ hpG))))) rfl ?_
        refine S PA (S Mv ?_);obtain⟨x38,gx38,hE⟩:=bO hE;refine sH (callH rfl rfl (Z39_walk gx38 _ hpG hpG)) rfl ?_;refine hq ((H.set c0_2 (some (.tok 2 x38.Fout.l.length))).set c0 (some (.cells (Z2.cg (some c0_2) x38)))) ?_;refine nil ?_;exact hK26 _ (x12.FOn,x38) Weak.toA hE
       refine AWp.skip ?_;exact hK26 _ (a2,y5_c0) Weak.toA hE
      rintro ⟨s12_27,y28_c0⟩ hE;try dsimp only at hE
      unfold Z41_j26 at hE;refine region ?_;refine S Mv (S Fv ?_);refine s0 (loadV (TK rfl) rfl rfl (congrArg (fun x=>some (A.d x)) (TSel.FSelsD_eq _))) rfl ?_;refine S Mv (S Mv ?_);obtain⟨x29,gx29,hE⟩:=bO hE;refine sH (callH rfl rfl (ih_24 gx29 _ hpG hpG)) rfl ?_;refine hq ((H.set c0_2 (some (.tok 2 x29.Fout.l.length))).set c0 (some (.cells (Z2.cg (some c0_2) x29)))) ?_;refine nil ?_;exact hK9 _ x29 Weak.toA hE
     refine seqR (S Fv (S Ld (S As (S As (nil ?_)))));refine seqJH (TA 0 (TA 2 (TA 3 (TA 9 (TA 15 (TA 20 (TA 21 (TA 22 KeepsT.nil)))))))) (fun(z:Bs)=>[(14,.a (.d (.str z)))]) (fun z=>((H.set c0_2 (some (.tok 2 y5_c0.Fout.l.length))).set c0 (some (.cells (Z2.cg (some c0_2) y5_c0))))) (fun z=>Z41_j40 a2 a3 s22_4 y5_c0 x12 ((Z41_l3 a1 a2 a3 (Z41_n n) n3)) (Z41_n n) z=some r) ?_ ?_
     ·intro K40 hK40;refine seqR (S Mv (S BS (nil ?_)));refine cE hE (fun hc57 hE=>?_) (fun hc57 hE=>?_)
      ·refine region ?_;refine S Fv (S Ld (S As (nil ?_)));exact hK40 _ x12.FName Weak.toA hE
      refine AWp.skip ?_;exact hK40 _ x12.FAlias Weak.toA hE
     rintro s14_41 hE;try dsimp only at hE
     unfold Z41_j40 at hE;refine seqJH (TA 0 (TA 2 (TA 3 (TA 9 (TA 14 (TA 20 (TA 21 (TA 22 KeepsT.nil)))))))) (fun(z:Bs)=>[(15,.a (.d (.str z)))]) (fun z=>((H.set c0_2 (some (.tok 2 y5_c0.Fout.l.length))).set c0 (some (.cells (Z2.cg (some c0_2) y5_c0))))) (fun z=>Z41_j42 a3 s22_4 y5_c0 x12 s14_41 ((Z41_l3 a1 a2 a3 (Z41_n n) n3)) (Z41_n n) z=some r) ?_ ?_
     ·intro K42 hK42;refine seqR (S Mv (S NP ?_));refine s0 (fieldP (TK rfl) rfl rfl (TK rfl) rfl rfl) rfl ?_;refine s0 (loadP (TK rfl) rfl rfl hpG rfl) rfl ?_;refine S Mv ?_;obtain⟨x48,gx48,hE⟩:=bO hE;refine Sc rfl rfl (Z88_walk gx48) ?_;refine S Mv (S EX (S EX ?_));refine Sl ?_;refine Sf ?_;refine S As (nil ?_);refine freezeA 16 _ rfl (KA 0 (KA 2 (KA 3 (KA 9 (KA 14 (KA 15 (KA 17 (KA 20 (KA 21 (KA 22 Keeps.nil)))))))))) ?_
      refine seqR (S Mv (S Mv (G0 Mv ?_)));refine G1 45 rfl NP ?_;refine gC rfl rfl (fun hC=>ungdA (k:=46) rfl (fieldP (TK rfl) rfl rfl (TK rfl) rfl rfl)) rfl ?_;refine gC rfl rfl (fun hC=>ungdA (k:=47) rfl (loadP (TK rfl) rfl rfl hpG rfl)) rfl ?_;refine G0 Mv ?_;obtain⟨x50,gx50,hE⟩:=gO hE;refine Gc2 48 49 rfl rfl rfl rfl rfl rfl (fun hC=>Z86_walk (gx50 hC)) ?_;refine S PA (nil ?_);refine cE hE (fun hc51 hE=>?_) (fun hc51 hE=>?_)
      ·refine seqR (S Ld (S Fv (S Ld ?_)));obtain⟨x53,gx53,hE⟩:=bO hE;refine Sc rfl rfl (Z87_walk gx53) ?_;refine S Mv (S EX (S EX ?_));refine Sl ?_;refine Sf ?_;refine S As (nil ?_);refine freezeA 18 _ rfl (KA 0 (KA 2 (KA 3 (KA 9 (KA 14 (KA 15 (KA 19 (KA 20 (KA 21 (KA 22 Keeps.nil)))))))))) ?_;refine seqR (S Mv (nil ?_));refine cE hE (fun hc55 hE=>?_) (fun hc55 hE=>?_)
       ·refine region ?_;refine S Fv (S Fv (S Ld (S As (nil ?_))));exact hK42 _ x53.1.FType.FName Weak.toA hE
       refine AWp.skip ?_;exact hK42 _ ([]:Bs) Weak.toA hE
      refine AWp.skip ?_;exact hK42 _ ([]:Bs) Weak.toA hE
     rintro s15_43 hE;try dsimp only at hE
     unfold Z41_j42 at hE;refine region ?_;refine S Mv (S Fv ?_);refine s0 (loadV (TK rfl) rfl rfl (congrArg (fun x=>some (A.d x)) (TSel.FSelsD_eq _))) rfl ?_;refine S Mv (S Mv ?_);obtain⟨x44,gx44,hE⟩:=bO hE;refine s0 (catM rfl rfl gx44) rfl ?_;refine S Mv ?_;obtain⟨x45,gx45,hE⟩:=bO hE;refine s0 (catM rfl rfl gx45) rfl ?_;obtain⟨x46,gx46,hE⟩:=bO hE;refine sH (callH rfl rfl (ih_24 gx46 _ hpG hpG)) rfl ?_
     refine hq ((H.set c0_2 (some (.tok 2 x46.Fout.l.length))).set c0 (some (.cells (Z2.cg (some c0_2) x46)))) ?_;refine nil ?_;exact hK9 _ x46 Weak.toA hE
    rintro y10_c0 hE;try dsimp only at hE
    unfold Z41_j9 at hE;refine region ?_;refine SI ?_;refine S Mv (nil ?_);exact hK3 _ (n3,(s22_4+1),y10_c0) Weak.toA hE (Nat.lt_succ_self _)
   refine AWp.exit ?_;repeat (first|refine xBlock_normal ?_|refine xThen_exit ?_|refine xBlock_exit ?_)
   obtain rfl:=Option.some.inj hE;refine retQ.normalF ((H.set c0_2 (some (.tok 2 y5_c0.Fout.l.length))).set c0 (some (.cells (Z2.cg (some c0_2) y5_c0)))) (xs:=[]) rfl ⟨rfl,rfl⟩ ?_;exact(fun _ _ h=>h)
theorem Z41_all:∀(n:Nat),(∀{a0:Z2}{a1:Sl TSel}{a2 a3:Bs}{w1:Option Nat}{c0 c0_2:Nat}{r:Z2},Z41_n n a0 a1 a2 a3=some r->∀(H:Heap) (hc0:H c0=some (.cells (Z2.cg (some c0_2) a0))) (ht0_2:H c0_2=some (.tok 2 a0.Fout.l.length)),ACalls Tryz.prog 24 [.d (.ptr c0 0),.d (Sl.d 7 TSel.c w1 a1),.d (.str a2),.d (.str a3)] H fun v h'=>v=.tup []/\h'=((H.set c0_2 (some (.tok 2 r.Fout.l.length))).set c0 (some (.cells (Z2.cg (some c0_2) r)))))
 | 0=>fun hE=>by first|cases hE|(rw [Z41_n] at hE; cases hE)
 | n+1=>Z41_step n (Z41_all n)
def Z41 (a0:Z2) (a1:(Sl TSel)) (a2:Bs) (a3:Bs):Option Z2:=Z41_n F0 a0 a1 a2 a3
theorem Z41_walk {a0:Z2}{a1:Sl TSel}{a2 a3:Bs}{w1:Option Nat}{c0 c0_2:Nat}{r:Z2}(hE:Z41 a0 a1 a2 a3=some r) (H:Heap) (hc0:H c0=some (.cells (Z2.cg (some c0_2) a0))) (ht0_2:H c0_2=some (.tok 2 a0.Fout.l.length)):ACalls Tryz.prog 24 [.d (.ptr c0 0),.d (Sl.d 7 TSel.c w1 a1),.d (.str a2),.d (.str a3)] H fun v h'=>v=.tup []/\h'=((H.set c0_2 (some (.tok 2 r.Fout.l.length))).set c0 (some (.cells (Z2.cg (some c0_2) r)))):=(Z41_all F0) hE H hc0 ht0_2
def Z43_j3  (s2_4:(Sl Bs)) (s8_5:Bool):Option ((Sl Bs)×Bool):=some (s2_4,s8_5)
def Z43_j16 (s17_12:Nat) (k_next_9:(Sl Bs)->Bool->Nat->Option ((Sl Bs)×Bool)) (s2_17:(Sl Bs)) (s8_18:Bool):Option ((Sl Bs)×Bool):=k_next_9 s2_17 s8_18 (s17_12+1)
def Z43_j22 (a0:Z9) (s17_12:Nat) (k_next_9:(Sl Bs)->Bool->Nat->Option ((Sl Bs)×Bool)) (k_rec_25:Z9->(Sl TSel)->(Sl Bs)->Option ((Sl Bs)×Bool)) (s2_23:(Sl Bs)) (s8_24:Bool) (s11_25:(Sl TSel)):Option ((Sl Bs)×Bool):=(k_rec_25 a0 s11_25 s2_23).bind fun x28=>Z43_j16 s17_12 k_next_9 x28.1 (s8_24&&x28.2)
def Z43_l9 (a0:Z9) (a1:(Sl TSel)) (k_rec_25:Z9->(Sl TSel)->(Sl Bs)->Option ((Sl Bs)×Bool)):Nat->(Sl Bs)->Bool->Nat->Option ((Sl Bs)×Bool)
 | 0,_,_,_=>none
 | n9+1,s2_10,s8_11,s17_12=>bif (decide (((s17_12:Nat):Int)<((a1.l.length:Nat):Int))) then((a1.l[s17_12]?).bind fun x20=>bif (decide (x20.FKind=(2:Int))) then((Z38 a0 x20.FName).bind fun x32=>guardO (!(!x32.2)) (Z110 s2_10 x20.FName) false fun x36=>bif ((!x32.2)||x36) then(Z43_j16 s17_12 ((Z43_l9 a0 a1 k_rec_25 n9)) s2_10 (s8_11&&x32.2)) else((appC 16 s2_10 (⟨false,[x20.FName]⟩:Sl Bs)).bind fun x39=>Z43_j22 a0 s17_12 ((Z43_l9 a0 a1 k_rec_25 n9)) k_rec_25 x39 (s8_11&&x32.2) x32.1.FSels)) else(Z43_j22 a0 s17_12 ((Z43_l9 a0 a1 k_rec_25 n9)) k_rec_25 s2_10 s8_11 x20.FSels)) else(Z43_j3   s2_10 s8_11)
def Z43_n:Nat->Z9->(Sl TSel)->(Sl Bs)->Option ((Sl Bs)×Bool)
 | 0,_,_,_=>none
 | n+1,a0,a1,a2=>Z43_l9 a0 a1 (Z43_n n) (a1.l.length+1) a2 true 0
theorem Z43_step (n:Nat) (ih_25:∀{a0:Z9}{a1:Sl TSel}{a2:Sl Bs}{w1:Option Nat}{g2:Nat}{r:((Sl Bs)×Bool)},Z43_n n a0 a1 a2=some r->∀(H:Heap) (hg2:H g2=some (.tok 1 a2.l.length)),ACalls Tryz.prog 25 [.agg (Z9.c a0),.d (Sl.d 7 TSel.c w1 a1),.d (Sl.d 1 strE (some g2) a2)] H fun v h'=>v=.tup [.d (Sl.d 1 strE (some g2) r.1),.d (.bool r.2)]/\h'=(H.set g2 (some (.tok 1 r.1.l.length)))):∀{a0:Z9}{a1:Sl TSel}{a2:Sl Bs}{w1:Option Nat}{g2:Nat}{r:((Sl Bs)×Bool)},Z43_n (n+1) a0 a1 a2=some r->∀(H:Heap) (hg2:H g2=some (.tok 1 a2.l.length)),ACalls Tryz.prog 25 [.agg (Z9.c a0),.d (Sl.d 7 TSel.c w1 a1),.d (Sl.d 1 strE (some g2) a2)] H fun v h'=>v=.tup [.d (Sl.d 1 strE (some g2) r.1),.d (.bool r.2)]/\h'=(H.set g2 (some (.tok 1 r.1.l.length))):=by
 intro a0 a1 a2 w1 g2 r hE H hg2;rw [Z43_n] at hE;refine ACalls.oW 66 [.tmp 6,.tmp 7] Tryz.call25 Tryz.func25 ?_;refine AWp.heqA (h':=(H.set g2 (some (.tok 1 a2.l.length)))) (by funext n_; simp only [Heap.set]; (repeat' split)<;>simp_all) ?_;refine seqR (S BX (S As (S As (nil ?_))));refine seqR (S As (nil ?_));refine seqJH KeepsT.nil (fun(z:(Sl Bs)×Bool)=>[(2,.a (.d (Sl.d 1 strE (some g2) z.1))),(8,.a (.d (.bool z.2)))]) (fun z=>(H.set g2 (some (.tok 1 z.1.l.length)))) (fun z=>Z43_j3 z.1 z.2=some r) ?_ ?_
 ·intro K3 hK3;refine seqR (S Mv ?_);refine sLen (f:=TSel.c) (s:=a1) (TK rfl) rfl rfl rfl rfl fun hL8=>?_;refine S Mv (nil ?_);refine block ?_;refine loopH (TA 3 (TA 15 (TA 16 KeepsT.nil))) (fun(z:Nat×(Sl Bs)×Bool×Nat)=>[(2,.a (.d (Sl.d 1 strE (some g2) z.2.1))),(8,.a (.d (.bool z.2.2.1))),(17,.a (.d (.int .i64 ((z.2.2.2:Nat):Int))))]) (fun z=>(H.set g2 (some (.tok 1 z.2.1.l.length)))) (fun z=>z.1) (fun z=>Z43_l9 a0 a1 (Z43_n n) z.1 z.2.1 z.2.2.1 z.2.2.2=some r) ((a1.l.length+1),a2,true,0) hE Weak.toA ?_
  rintro ⟨n9,s2_10,s8_11,s17_12⟩ hE K9 hK9;try dsimp only at hE
  cases n9 with
  | zero=>cases hE
  | succ n9 =>
    rw [Z43_l9] at hE;refine seqR (S BI (nil ?_));refine seqK fun K14 hK14=>?_;refine cE hE (fun hc15 hE=>?_) (fun hc15 hE=>?_)
    ·try dsimp only at hc15
     have hf15:=of_decide_eq_true hc15;refine sk hK14 ?_;clear hK14 K14;refine seqJH (TA 3 (TA 15 (TA 16 (TA 17 KeepsT.nil)))) (fun(z:(Sl Bs)×Bool)=>[(2,.a (.d (Sl.d 1 strE (some g2) z.1))),(8,.a (.d (.bool z.2)))]) (fun z=>(H.set g2 (some (.tok 1 z.1.l.length)))) (fun z=>Z43_j16 s17_12 ((Z43_l9 a0 a1 (Z43_n n) n9)) z.1 z.2=some r) ?_ ?_
     ·intro K16 hK16;refine block ?_;refine seqR ?_;obtain⟨x20,gx20,hE⟩:=bO hE;refine S (ix TSel.c s17_12 gx20) (S Ld ?_);refine Sl ?_;refine Sf ?_;refine nil ?_;refine freezeA 10 _ rfl (KA 2 (KA 3 (KA 8 (KA 15 (KA 16 (KA 17 Keeps.nil)))))) ?_;refine seqR (S Fv ?_);refine s0 (loadV (TK rfl) rfl rfl (congrArg (fun x=>some (A.d x)) (TSel.FSelsD_eq _))) rfl ?_;refine S As (nil ?_);refine seqJH (TA 3 (TA 15 (TA 16 (TA 17 KeepsT.nil)))) (fun(z:(Sl Bs)×Bool×(Sl TSel))=>[(2,.a (.d (Sl.d 1 strE (some g2) z.1))),(8,.a (.d (.bool z.2.1))),(11,.a (.d (Sl.d 7 TSel.c none z.2.2)))]) (fun z=>(H.set g2 (some (.tok 1 z.1.l.length)))) (fun z=>Z43_j22 a0 s17_12 ((Z43_l9 a0 a1 (Z43_n n) n9)) (Z43_n n) z.1 z.2.1 z.2.2=some r) ?_ ?_
      ·intro K22 hK22;refine seqR (S Fv (S Ld (S BI (nil ?_))));refine cE hE (fun hc30 hE=>?_) (fun hc30 hE=>?_)
       ·refine seqR (S Ld (S Fv (S Ld ?_)));obtain⟨x32,gx32,hE⟩:=bO hE;refine Sc rfl rfl (Z38_walk gx32) ?_;refine S Mv (S EX (S EX ?_));refine Sl ?_;refine Sf ?_;refine S As (nil ?_);refine freezeA 12 _ rfl (KA 2 (KA 3 (KA 8 (KA 10 (KA 13 (KA 15 (KA 16 (KA 17 Keeps.nil)))))))) ?_;refine seqR (S Mv (S Mv (G0 Mv (S PA (S As (nil ?_))))));refine seqK fun K34 hK34=>?_;refine seqR (S Mv (S NB (S Mv (G0 Mv (G0 Fv ?_)))))
        refine G1 41 rfl Ld ?_;obtain⟨x36,gx36,hE⟩:=gO hE;refine Gc2 40 42 rfl rfl rfl rfl rfl rfl (fun hC=>Z110_walk (gx36 hC)) ?_;refine S PO (nil ?_);refine cE hE (fun hc37 hE=>?_) (fun hc37 hE=>?_)
        ·refine AWp.exit ?_;exact hK16 _ (s2_10,(s8_11&&x32.2)) Weak.toA hE
        refine sk hK34 ?_;clear hK34 K34;refine seqR (S Mv (S Fv (S Ld (S BV ?_))));obtain⟨x39,gx39,hE⟩:=bO hE;refine SH (am strE (TK rfl) rfl (TK rfl) (TK rfl) gx39) ?_;refine hq (H.set g2 (some (.tok 1 x39.l.length))) ?_;refine S As (nil ?_);refine region ?_;refine S Fv (S Ld (S As (nil ?_)));exact hK22 _ (x39,(s8_11&&x32.2),x32.1.FSels) Weak.toA hE
       refine AWp.skip ?_;exact hK22 _ (s2_10,s8_11,x20.FSels) Weak.toA hE
      rintro ⟨s2_23,s8_24,s11_25⟩ hE;try dsimp only at hE
      unfold Z43_j22 at hE;refine seqR (S As (nil ?_));refine seqR (S Ld (S Mv (S Mv ?_)));obtain⟨x28,gx28,hE⟩:=bO hE;refine sH (callH rfl rfl (ih_25 gx28 _ hpG)) rfl ?_;refine hq (H.set g2 (some (.tok 1 x28.1.l.length))) ?_;refine S Mv (S EX (S EX (S As (S As (nil ?_)))));refine region ?_;refine S Mv (S Mv (G0 Mv (S PA (S As (nil ?_)))));exact hK16 _ (x28.1,(s8_24&&x28.2)) Weak.toA hE
     rintro ⟨s2_17,s8_18⟩ hE;try dsimp only at hE
     unfold Z43_j16 at hE;refine region ?_;refine SI ?_;refine S Mv (nil ?_);exact hK9 _ (n9,s2_17,s8_18,(s17_12+1)) Weak.toA hE (Nat.lt_succ_self _)
    refine AWp.exit ?_;exact hK3 _ (s2_10,s8_11) Weak.toA hE
 rintro ⟨s2_4,s8_5⟩ hE;try dsimp only at hE
 unfold Z43_j3 at hE;refine seqR (S Mv (S Mv (S As (S As (nil ?_)))));exact rt hE
theorem Z43_all:∀(n:Nat),(∀{a0:Z9}{a1:Sl TSel}{a2:Sl Bs}{w1:Option Nat}{g2:Nat}{r:((Sl Bs)×Bool)},Z43_n n a0 a1 a2=some r->∀(H:Heap) (hg2:H g2=some (.tok 1 a2.l.length)),ACalls Tryz.prog 25 [.agg (Z9.c a0),.d (Sl.d 7 TSel.c w1 a1),.d (Sl.d 1 strE (some g2) a2)] H fun v h'=>v=.tup [.d (Sl.d 1 strE (some g2) r.1),.d (.bool r.2)]/\h'=(H.set g2 (some (.tok 1 r.1.l.length))))
 | 0=>fun hE=>by first|cases hE|(rw [Z43_n] at hE; cases hE)
 | n+1=>Z43_step n (Z43_all n)
def Z43 (a0:Z9) (a1:(Sl TSel)) (a2:(Sl Bs)):Option ((Sl Bs)×Bool):=Z43_n F0 a0 a1 a2
theorem Z43_walk {a0:Z9}{a1:Sl TSel}{a2:Sl Bs}{w1:Option Nat}{g2:Nat}{r:((Sl Bs)×Bool)}(hE:Z43 a0 a1 a2=some r) (H:Heap) (hg2:H g2=some (.tok 1 a2.l.length)):ACalls Tryz.prog 25 [.agg (Z9.c a0),.d (Sl.d 7 TSel.c w1 a1),.d (Sl.d 1 strE (some g2) a2)] H fun v h'=>v=.tup [.d (Sl.d 1 strE (some g2) r.1),.d (.bool r.2)]/\h'=(H.set g2 (some (.tok 1 r.1.l.length))):=(Z43_all F0) hE H hg2
def Z42 (a0:Z9) (a1:Z6):Option Bool:=(Z43 a0 a1.FSels (Sl.nil:Sl Bs)).bind fun x4=>(Z110 x4.1 a1.FName).bind fun x6=>some x6
theorem Z42_walk {a0:Z9}{a1:Z6}{r:Bool}(hE:Z42 a0 a1=some r) (H:Heap) :ACalls Tryz.prog 28 [.agg (Z9.c a0),.agg (Z6.c a1)] H fun v h'=>v=.a (.d (.bool r))/\h'=H:=by
 unfold Z42 at hE;refine ACalls.oW 18 [.tmp 4] Tryz.call28 Tryz.func28 ?_;refine seqR (S BX (S BX (S As (nil ?_))));refine AWp.tok 1 fun tk2_3 htk2_3=>?_;refine seqR (S Ld (S Fv (S Ld ?_)));obtain⟨x4,gx4,hE⟩:=bO hE;refine sH (callH rfl rfl (ACalls.asArgs (.cons (.refl _) (.cons (.refl _) (.cons (AsArg.nil (k':=1) (t:=tk2_3) hpG) .nil))) (Z43_walk gx4 _ hpG))) rfl ?_;refine hq (H.set tk2_3 (some (.tok 1 x4.1.l.length))) ?_
 refine S Mv (S EX (S EX (S As (S As (nil ?_)))));refine AWp.dropTok 5 rfl ?_;refine seqR (S Mv (S Fv (S Ld ?_)));obtain⟨x6,gx6,hE⟩:=bO hE;refine Sc rfl rfl (Z110_walk gx6) ?_;refine S As (nil ?_);refine AWp.ret ?_;repeat (first|refine xBlock_ret ?_|refine xThen_ret ?_)
 obtain rfl:=Option.some.inj hE;refine retQ.retF H rfl ⟨rfl,rfl⟩ ?_
 first|exact Heap.sub_set htk2_3|(simp only [Heap.set_set]; exact Heap.sub_set htk2_3)
end Go.Proofs

namespace Go.Proofs
open Go Go.Ab
open AOps Cert AWp Keeps KeepsT
variable {lou:Lou}
def Z37_j10  (y11_id18_3:Z2):Option (Sl Z4):=some y11_id18_3.Fout
def Z37_l15 (a0:TDoc) (a1:Z9) (y9_id19_6:(List Bs)) :Nat->Nat->Z2->Option (Sl Z4)
 | 0,_,_=>none
 | n15+1,s56_16,y17_id18_3=>bif (decide (((s56_16:Nat):Int)<((a1.FFrags.l.length:Nat):Int))) then((a1.FFrags.l[s56_16]?).bind fun x23=>(Z86 a0 x23.FOn).bind fun x25=>(Z39 y17_id18_3 (!x25) (24:Int) x23.FName).bind fun x26=>(Z42 a1 x23).bind fun x28=>(Z39 x26 x28 (24:Int) x23.FName).bind fun x29=>(Z39 x29 (!(y9_id19_6.contains x23.FName)) (26:Int) x23.FName).bind fun x31=>(Z41 x31 x23.FSels x23.FOn x23.FName).bind fun x32=>(Z37_l15 a0 a1 y9_id19_6 n15) (s56_16+1) x32) else(Z37_j10   y17_id18_3)
def Z37_j7 (a0:TDoc) (a1:Z9)  (y8_id18_3:Z2) (y9_id19_6:(List Bs)):Option (Sl Z4):=Z37_l15 a0 a1 y9_id19_6 (a1.FFrags.l.length+1) 0 y8_id18_3
def Z37_j42 (s23_36:Nat) (k_next_35:Nat->Z2->(List Bs)->Option (Sl Z4)) (y43_id18_3:Z2) (y44_id19_6:(List Bs)):Option (Sl Z4):=k_next_35 (s23_36+1) y43_id18_3 y44_id19_6
def Z37_l55 (s23_36:Nat) (x49:Z2) (x52:((Sl Bs)×Bool)) (k_next_35:Nat->Z2->(List Bs)->Option (Sl Z4)):Nat->Nat->(List Bs)->Option (Sl Z4)
 | 0,_,_=>none
 | n55+1,s45_56,y57_id19_6=>bif (decide (((s45_56:Nat):Int)<((x52.1.l.length:Nat):Int))) then((x52.1.l[s45_56]?).bind fun x63=>(Z37_l55 s23_36 x49 x52 k_next_35 n55) (s45_56+1) (insS y57_id19_6 x63)) else(Z37_j42 s23_36 k_next_35 x49 y57_id19_6)
def Z37_l35 (a0:TDoc) (a1:Z9) :Nat->Nat->Z2->(List Bs)->Option (Sl Z4)
 | 0,_,_,_=>none
 | n35+1,s23_36,y37_id18_3,y38_id19_6=>bif (decide (((s23_36:Nat):Int)<((a1.FOps.l.length:Nat):Int))) then((a1.FOps.l[s23_36]?).bind fun x46=>(Z92 x46.FKind).bind fun x48=>(Z41 y37_id18_3 x46.FSels x48 x46.FName).bind fun x49=>(Z43 a1 x46.FSels (Sl.nil:Sl Bs)).bind fun x52=>Z37_l55 s23_36 x49 x52 ((Z37_l35 a0 a1 n35)) (x52.1.l.length+1) 0 y38_id19_6) else(Z37_j7 a0 a1  y37_id18_3 y38_id19_6)
def Z37 (a0:TDoc) (a1:Z9):Option (Sl Z4):=Z37_l35 a0 a1 (a1.FOps.l.length+1) 0 (Z2.mk a0 a1 (Sl.nil:Sl Z4)) ([]:List Bs)
theorem Z37_walk {a0:TDoc}{a1:Z9}{r:Sl Z4}(hE:Z37 a0 a1=some r) (H:Heap) :ACalls Tryz.prog 7 [.agg (TDoc.c a0),.agg (Z9.c a1)] H fun v h'=>v=.a (.d (Sl.d 2 Z4.c none r))/\h'=H:=by
 unfold Z37 at hE;refine ACalls.oW 98 [.tmp 4] Tryz.call7 Tryz.func7 ?_;refine seqR (S BX (S BX ?_));refine s0 (assignNil (k':=2) rfl) rfl ?_;refine nil ?_;refine seqR (S Ld (S Ld (S BU ?_)));refine AOps.tok 2 fun tk18_4 htk18_4=>?_;refine sE (StepE.boxO rfl) rfl (fun _ _ _ ⟨id18_3,hid18_3,e1,e2,e3⟩=>?_); subst e1 e2 e3;obtain⟨ne_id18_3_tk18_4,hid18_3⟩:=Heap.set_fresh hid18_3;refine AOps.recell id18_3 _ hpG (fun j w cs hh hx=>tok_cell 3 2 2 hh (t:=tk18_4) hpG hx rfl) ?_
 refine hq ((H.set tk18_4 (some (.tok 2 0))).set id18_3 (some (.cells (Z2.cg (some tk18_4) (Z2.mk a0 a1 (Sl.nil:Sl Z4)))))) ?_;refine S As (nil ?_);refine seqR ?_;refine sE StepE.makeMap rfl (fun _ _ _ ⟨id19_6,hid19_6,e1,e2,e3⟩=>?_); subst e1 e2 e3;obtain⟨ne_id19_6_id18_3,hid19_6⟩:=Heap.set_fresh hid19_6;obtain⟨ne_id19_6_tk18_4,hid19_6⟩:=Heap.set_fresh hid19_6;refine hq (((H.set tk18_4 (some (.tok 2 0))).set id18_3 (some (.cells (Z2.cg (some tk18_4) (Z2.mk a0 a1 (Sl.nil:Sl Z4)))))).set id19_6 (some (.map (seenM ([]:List Bs))))) ?_
 refine S As (nil ?_);refine seqJH (TA 2 (TA 3 (TA 5 (TA 6 KeepsT.nil)))) (fun(z:Z2×(List Bs))=>[]) (fun z=>(((H.set tk18_4 (some (.tok 2 z.1.Fout.l.length))).set id18_3 (some (.cells (Z2.cg (some tk18_4) z.1)))).set id19_6 (some (.map (seenM z.2))))) (fun z=>Z37_j7 a0 a1 z.1 z.2=some r) ?_ ?_
 ·intro K7 hK7;refine seqR (S Fv (S Ld ?_));refine sLen (f:=TOp.c) (s:=a1.FOps) (TK rfl) rfl rfl rfl rfl fun hL34=>?_;refine S Mv (nil ?_);refine block ?_;refine loopH (TA 2 (TA 3 (TA 5 (TA 6 (TA 21 (TA 22 KeepsT.nil)))))) (fun(z:Nat×Nat×Z2×(List Bs))=>[(23,.a (.d (.int .i64 ((z.2.1:Nat):Int))))]) (fun z=>(((H.set tk18_4 (some (.tok 2 z.2.2.1.Fout.l.length))).set id18_3 (some (.cells (Z2.cg (some tk18_4) z.2.2.1)))).set id19_6 (some (.map (seenM z.2.2.2))))) (fun z=>z.1) (fun z=>Z37_l35 a0 a1 z.1 z.2.1 z.2.2.1 z.2.2.2=some r) ((a1.FOps.l.length+1),0,(Z2.mk a0 a1 (Sl.nil:Sl Z4)),([]:List Bs)) hE Weak.toA ?_
  rintro ⟨n35,s23_36,y37_id18_3,y38_id19_6⟩ hE K35 hK35;try dsimp only at hE
  cases n35 with
  | zero=>cases hE
  | succ n35 =>
    rw [Z37_l35] at hE;refine seqR (S BI (nil ?_));refine seqK fun K40 hK40=>?_;refine cE hE (fun hc41 hE=>?_) (fun hc41 hE=>?_)
    ·try dsimp only at hc41
     have hf41:=of_decide_eq_true hc41;refine sk hK40 ?_;clear hK40 K40;refine seqJH (TA 2 (TA 3 (TA 5 (TA 6 (TA 21 (TA 22 (TA 23 KeepsT.nil))))))) (fun(z:Z2×(List Bs))=>[]) (fun z=>(((H.set tk18_4 (some (.tok 2 z.1.Fout.l.length))).set id18_3 (some (.cells (Z2.cg (some tk18_4) z.1)))).set id19_6 (some (.map (seenM z.2))))) (fun z=>Z37_j42 s23_36 ((Z37_l35 a0 a1 n35)) z.1 z.2=some r) ?_ ?_
     ·intro K42 hK42;refine block ?_;refine seqR ?_;obtain⟨x46,gx46,hE⟩:=bO hE;refine S (ix TOp.c s23_36 gx46) (S Ld ?_);refine Sl ?_;refine Sf ?_;refine nil ?_;refine freezeA 8 _ rfl (KA 2 (KA 3 (KA 5 (KA 6 (KA 21 (KA 22 (KA 23 Keeps.nil))))))) ?_;refine AWp.seqD (Sd Mv (Sd Fv (Sd Ld (Sd Fv (Sd Ld ?_)))));obtain⟨x48,gx48,hE⟩:=bO hE;refine Scd rfl rfl (Z92_walk gx48) ?_;refine Sd Fv (Sd Ld ?_);obtain⟨x49,gx49,hE⟩:=bO hE
      refine DOps.sH (callH rfl rfl (Z41_walk gx49 _ hpG hpG)) rfl ?_;refine DOps.Dh (((H.set tk18_4 (some (.tok 2 x49.Fout.l.length))).set id18_3 (some (.cells (Z2.cg (some tk18_4) x49)))).set id19_6 (some (.map (seenM y38_id19_6)))) ?_;refine DOps.nil (by decide +kernel) ?_;refine AWp.tok 1 fun tk2_51 htk2_51=>?_;obtain⟨ne_tk2_51_id19_6,htk2_51⟩:=Heap.set_fresh htk2_51;obtain⟨ne_tk2_51_id18_3,htk2_51⟩:=Heap.set_fresh htk2_51
      obtain⟨ne_tk2_51_tk18_4,htk2_51⟩:=Heap.set_fresh htk2_51;refine seqR (S Ld (S Fv (S Ld ?_)));obtain⟨x52,gx52,hE⟩:=bO hE;refine sH (callH rfl rfl (ACalls.asArgs (.cons (.refl _) (.cons (.refl _) (.cons (AsArg.nil (k':=1) (t:=tk2_51) hpG) .nil))) (Z43_walk gx52 _ hpG))) rfl ?_;refine hq ((((H.set tk18_4 (some (.tok 2 x49.Fout.l.length))).set id18_3 (some (.cells (Z2.cg (some tk18_4) x49)))).set id19_6 (some (.map (seenM y38_id19_6)))).set tk2_51 (some (.tok 1 x52.1.l.length))) ?_
      refine S Mv (S EX (S EX (S As (S As (nil ?_)))));refine AWp.dropTok 9 rfl ?_;refine seqR (S Mv ?_);refine sLen (f:=strE) (s:=x52.1) (TK rfl) rfl rfl rfl rfl fun hL54=>?_;refine S Mv (nil ?_);refine block ?_;refine loopH (TA 2 (TA 3 (TA 5 (TA 6 (TA 21 (TA 22 (TA 23 (TA 43 (TA 44 KeepsT.nil))))))))) (fun(z:Nat×Nat×(List Bs))=>[(45,.a (.d (.int .i64 ((z.2.1:Nat):Int))))]) (fun z=>((((H.set tk18_4 (some (.tok 2 x49.Fout.l.length))).set id18_3 (some (.cells (Z2.cg (some tk18_4) x49)))).set id19_6 (some (.map (seenM z.2.2)))).set tk2_51 (some (.tok 1 x52.1.l.length)))) (fun z=>z.1) (fun z=>Z37_l55 s23_36 x49 x52 ((Z37_l35 a0 a1 n35)) z.1 z.2.1 z.2.2=some r) ((x52.1.l.length+1),0,y38_id19_6) hE Weak.toA ?_
      rintro ⟨n55,s45_56,y57_id19_6⟩ hE K55 hK55;try dsimp only at hE
      cases n55 with
      | zero=>cases hE
      | succ n55 =>
        rw [Z37_l55] at hE;refine seqR (S BI (nil ?_));refine seqK fun K59 hK59=>?_;refine cE hE (fun hc60 hE=>?_) (fun hc60 hE=>?_)
        ·try dsimp only at hc60
         have hf60:=of_decide_eq_true hc60;refine sk hK59 ?_;clear hK59 K59;refine seqK fun K61 hK61=>?_;refine block ?_;refine seqR ?_;obtain⟨x63,gx63,hE⟩:=bO hE;refine S (ix strE s45_56 gx63) (S Ld (S As (nil ?_)));refine region ?_;refine S Mv (S Mv ?_);refine sHn (mapUpdate (TK rfl) rfl (TK rfl) rfl rfl rfl rfl hpG (seen_upd _ _) rfl) rfl rfl ?_;refine hq ((((H.set tk18_4 (some (.tok 2 x49.Fout.l.length))).set id18_3 (some (.cells (Z2.cg (some tk18_4) x49)))).set id19_6 (some (.map (seenM (insS y57_id19_6 x63))))).set tk2_51 (some (.tok 1 x52.1.l.length))) ?_
         refine nil ?_;refine hK61 _ ?_;clear hK61 K61;refine region ?_;refine SI ?_;refine S Mv (nil ?_);exact hK55 _ (n55,(s45_56+1),(insS y57_id19_6 x63)) Weak.toA hE (Nat.lt_succ_self _)
        refine AWp.exit ?_;exact hK42 _ (x49,y57_id19_6) (Weak.toFA (by(intro id_ o_ he_); (have e_tk2_51:id_≠tk2_51:=fun e_=>by rw [e_] at he_; simp [Heap.set,htk2_51,ne_tk2_51_tk18_4,ne_tk2_51_id18_3,ne_tk2_51_id19_6] at he_); (rw [<- he_]); (simp only [Heap.set,if_neg e_tk2_51]); (first|done|rfl))) hE
     rintro ⟨y43_id18_3,y44_id19_6⟩ hE;try dsimp only at hE
     unfold Z37_j42 at hE;refine region ?_;refine SI ?_;refine S Mv (nil ?_);exact hK35 _ (n35,(s23_36+1),y43_id18_3,y44_id19_6) Weak.toA hE (Nat.lt_succ_self _)
    refine AWp.exit ?_;exact hK7 _ (y37_id18_3,y38_id19_6) Weak.toA hE
 rintro ⟨y8_id18_3,y9_id19_6⟩ hE;try dsimp only at hE
 unfold Z37_j7 at hE;refine seqJH (TA 5 KeepsT.nil) (fun(z:Z2)=>[]) (fun z=>(((H.set tk18_4 (some (.tok 2 z.Fout.l.length))).set id18_3 (some (.cells (Z2.cg (some tk18_4) z)))).set id19_6 (some (.map (seenM y9_id19_6))))) (fun z=>Z37_j10 z=some r) ?_ ?_
 ·intro K10 hK10;refine seqR (S Fv (S Ld ?_));refine sLen (f:=Z6.c) (s:=a1.FFrags) (TK rfl) rfl rfl rfl rfl fun hL14=>?_;refine S Mv (nil ?_);refine block ?_;refine loopH (TA 2 (TA 3 (TA 5 (TA 6 (TA 54 (TA 55 KeepsT.nil)))))) (fun(z:Nat×Nat×Z2)=>[(56,.a (.d (.int .i64 ((z.2.1:Nat):Int))))]) (fun z=>(((H.set tk18_4 (some (.tok 2 z.2.2.Fout.l.length))).set id18_3 (some (.cells (Z2.cg (some tk18_4) z.2.2)))).set id19_6 (some (.map (seenM y9_id19_6))))) (fun z=>z.1) (fun z=>Z37_l15 a0 a1 y9_id19_6 z.1 z.2.1 z.2.2=some r) ((a1.FFrags.l.length+1),0,y8_id18_3) hE Weak.toA ?_
  rintro ⟨n15,s56_16,y17_id18_3⟩ hE K15 hK15;try dsimp only at hE
  cases n15 with
  | zero=>cases hE
  | succ n15 =>
    rw [Z37_l15] at hE;refine seqR (S BI (nil ?_));refine seqK fun K19 hK19=>?_;refine cE hE (fun hc20 hE=>?_) (fun hc20 hE=>?_)
    ·try dsimp only at hc20
     have hf20:=of_decide_eq_true hc20;refine sk hK19 ?_;clear hK19 K19;refine seqK fun K21 hK21=>?_;refine block ?_;refine seqR ?_;obtain⟨x23,gx23,hE⟩:=bO hE;refine S (ix Z6.c s56_16 gx23) (S Ld ?_);refine Sl ?_;refine Sf ?_;refine nil ?_;refine freezeA 14 _ rfl (KA 2 (KA 3 (KA 5 (KA 6 (KA 54 (KA 55 (KA 56 Keeps.nil))))))) ?_;refine AWp.seqD (Sd Mv (Sd Ld (Sd Fv (Sd Ld ?_))));obtain⟨x25,gx25,hE⟩:=bO hE
     refine Scd rfl rfl (Z86_walk gx25) ?_;refine Sd NB (Sd Fv (Sd Ld ?_));obtain⟨x26,gx26,hE⟩:=bO hE;refine DOps.sH (callH rfl rfl (Z39_walk gx26 _ hpG hpG)) rfl ?_;refine DOps.Dh (((H.set tk18_4 (some (.tok 2 x26.Fout.l.length))).set id18_3 (some (.cells (Z2.cg (some tk18_4) x26)))).set id19_6 (some (.map (seenM y9_id19_6)))) ?_;refine DOps.nil (by decide +kernel) ?_;refine AWp.seqD (Sd Mv (Sd Ld (Sd Ld ?_)))
     obtain⟨x28,gx28,hE⟩:=bO hE;refine Scd rfl rfl (Z42_walk gx28) ?_;refine Sd Fv (Sd Ld ?_);obtain⟨x29,gx29,hE⟩:=bO hE;refine DOps.sH (callH rfl rfl (Z39_walk gx29 _ hpG hpG)) rfl ?_;refine DOps.Dh (((H.set tk18_4 (some (.tok 2 x29.Fout.l.length))).set id18_3 (some (.cells (Z2.cg (some tk18_4) x29)))).set id19_6 (some (.map (seenM y9_id19_6)))) ?_;refine DOps.nil (by decide +kernel) ?_;refine seqR (S Mv (S Mv (S Fv (S Ld ?_))))
     refine s0 (lookupSeen (TK rfl) rfl (TK rfl) (TK rfl) rfl rfl rfl rfl hpG) rfl ?_;refine S NB (S Fv (S Ld ?_));obtain⟨x31,gx31,hE⟩:=bO hE;refine sH (callH rfl rfl (Z39_walk gx31 _ hpG hpG)) rfl ?_;refine hq (((H.set tk18_4 (some (.tok 2 x31.Fout.l.length))).set id18_3 (some (.cells (Z2.cg (some tk18_4) x31)))).set id19_6 (some (.map (seenM y9_id19_6)))) ?_;refine nil ?_;refine region ?_;refine S Mv (S Fv (S Ld (S Fv (S Ld (S Fv (S Ld ?_))))))
     obtain⟨x32,gx32,hE⟩:=bO hE;refine sH (callH rfl rfl (Z41_walk gx32 _ hpG hpG)) rfl ?_;refine hq (((H.set tk18_4 (some (.tok 2 x32.Fout.l.length))).set id18_3 (some (.cells (Z2.cg (some tk18_4) x32)))).set id19_6 (some (.map (seenM y9_id19_6)))) ?_;refine nil ?_;refine hK21 _ ?_;clear hK21 K21;refine region ?_;refine SI ?_;refine S Mv (nil ?_);exact hK15 _ (n15,(s56_16+1),x32) Weak.toA hE (Nat.lt_succ_self _)
    refine AWp.exit ?_;exact hK10 _ y17_id18_3 Weak.toA hE
 rintro y11_id18_3 hE;try dsimp only at hE
 unfold Z37_j10 at hE;refine seqR (S Mv (S NP ?_));refine s0 (fieldP (TK rfl) rfl rfl (TK rfl) rfl rfl) rfl ?_;refine s0 (loadP (TK rfl) rfl rfl hpG rfl) rfl ?_;refine S As (nil ?_);refine AWp.dropTok 4 rfl ?_;refine AWp.ret ?_;repeat (first|refine xBlock_ret ?_|refine xThen_ret ?_)
 obtain rfl:=Option.some.inj hE;refine retQ.retF H rfl ⟨rfl,rfl⟩ ?_;intro id_ o_ he_;have e_tk18_4:id_≠tk18_4:=fun e_=>by subst e_; simp_all [Heap.set]
 have e_id18_3:id_≠id18_3:=fun e_=>by subst e_; simp_all [Heap.set]
 have e_id19_6:id_≠id19_6:=fun e_=>by subst e_; simp_all [Heap.set]
 rw [<- he_];simp only [Heap.set] at he_ ⊢
 (repeat' split)<;>simp_all
def Z31_j10 (s14_4:Nat) (k_next_3:Nat->(List Bs)->(List Bs)->Option ((List Bs)×(List Bs))) (y11_c2:(List Bs)) (y12_c3:(List Bs)):Option ((List Bs)×(List Bs)):=k_next_3 (s14_4+1) y11_c2 y12_c3
def Z31_j30 (s45_24:Nat) (k_next_23:Nat->(List Bs)->(List Bs)->Option ((List Bs)×(List Bs))) (y31_c2:(List Bs)) (y32_c3:(List Bs)):Option ((List Bs)×(List Bs)):=k_next_23 (s45_24+1) y31_c2 y32_c3
def Z31_l23 (a0:Z1) (s14_4:Nat) (x14:TSel) (k_next_3:Nat->(List Bs)->(List Bs)->Option ((List Bs)×(List Bs))) (k_rec_29:Z1->(Sl TSel)->(List Bs)->(List Bs)->Option ((List Bs)×(List Bs))):Nat->Nat->(List Bs)->(List Bs)->Option ((List Bs)×(List Bs))
 | 0,_,_,_=>none
 | n23+1,s45_24,y25_c2,y26_c3=>bif (decide (((s45_24:Nat):Int)<((a0.Fq.FFrags.l.length:Nat):Int))) then((a0.Fq.FFrags.l[s45_24]?).bind fun x34=>bif (((x34.FName==x14.FName))&&(!(y26_c3.contains x14.FName))) then((k_rec_29 a0 x34.FSels y25_c2 (insS y26_c3 x14.FName)).bind fun x38=>Z31_j30 s45_24 ((Z31_l23 a0 s14_4 x14 k_next_3 k_rec_29 n23)) x38.1 x38.2) else(Z31_j30 s45_24 ((Z31_l23 a0 s14_4 x14 k_next_3 k_rec_29 n23)) y25_c2 y26_c3)) else(Z31_j10 s14_4 k_next_3 y25_c2 y26_c3)
def Z31_l3 (a0:Z1) (a1:(Sl TSel)) (k_rec_29:Z1->(Sl TSel)->(List Bs)->(List Bs)->Option ((List Bs)×(List Bs))):Nat->Nat->(List Bs)->(List Bs)->Option ((List Bs)×(List Bs))
 | 0,_,_,_=>none
 | n3+1,s14_4,y5_c2,y6_c3=>bif (decide (((s14_4:Nat):Int)<((a1.l.length:Nat):Int))) then((a1.l[s14_4]?).bind fun x14=>bif (decide (x14.FKind=(3:Int))) then((k_rec_29 a0 x14.FSels y5_c2 y6_c3).bind fun x18=>Z31_j10 s14_4 ((Z31_l3 a0 a1 k_rec_29 n3)) x18.1 x18.2) else(bif (decide (x14.FKind=(2:Int))) then(Z31_l23 a0 s14_4 x14 ((Z31_l3 a0 a1 k_rec_29 n3)) k_rec_29 (a0.Fq.FFrags.l.length+1) 0 y5_c2 y6_c3) else(bif (!(x14.FAlias==([]:Bs))) then(Z31_j10 s14_4 ((Z31_l3 a0 a1 k_rec_29 n3)) (insS y5_c2 x14.FAlias) y6_c3) else(Z31_j10 s14_4 ((Z31_l3 a0 a1 k_rec_29 n3)) (insS y5_c2 x14.FName) y6_c3)))) else(some (y5_c2,y6_c3))
def Z31_n:Nat->Z1->(Sl TSel)->(List Bs)->(List Bs)->Option ((List Bs)×(List Bs))
 | 0,_,_,_,_=>none
 | n+1,a0,a1,a2,a3=>Z31_l3 a0 a1 (Z31_n n) (a1.l.length+1) 0 a2 a3
theorem Z31_step (n:Nat) (ih_29:∀{a0:Z1}{a1:Sl TSel}{a2 a3:List Bs}{w1 q0_2:Option Nat}{c0 c2 c3:Nat}{r:((List Bs)×(List Bs))},Z31_n n a0 a1 a2 a3=some r->∀(H:Heap) (hc0:H c0=some (.cells (Z1.cg q0_2 a0))) (hc2:H c2=some (.map (seenM a2))) (hc3:H c3=some (.map (seenM a3))) (ne_c3_c2:c3≠c2),ACalls Tryz.prog 29 [.d (.ptr c0 0),.d (Sl.d 7 TSel.c w1 a1),.d (.map c2),.d (.map c3)] H fun v h'=>v=.tup []/\h'=((H.set c2 (some (.map (seenM r.1)))).set c3 (some (.map (seenM r.2))))):∀{a0:Z1}{a1:Sl TSel}{a2 a3:List Bs}{w1 q0_2:Option Nat}{c0 c2 c3:Nat}{r:((List Bs)×(List Bs))},Z31_n (n+1) a0 a1 a2 a3=some r->∀(H:Heap) (hc0:H c0=some (.cells (Z1.cg q0_2 a0))) (hc2:H c2=some (.map (seenM a2))) (hc3:H c3=some (.map (seenM a3))) (ne_c3_c2:c3≠c2),ACalls Tryz.prog 29 [.d (.ptr c0 0),.d (Sl.d 7 TSel.c w1 a1),.d (.map c2),.d (.map c3)] H fun v h'=>v=.tup []/\h'=((H.set c2 (some (.map (seenM r.1)))).set c3 (some (.map (seenM r.2)))):=by
 intro a0 a1 a2 a3 w1 q0_2 c0 c2 c3 r hE H hc0 hc2 hc3 ne_c3_c2;rw [Z31_n] at hE;refine ACalls.oW 72 [] Tryz.call29 Tryz.func29 ?_;have ne_c2_c0:c2≠c0:=fun e_=>by subst e_; simp_all
 have ne_c3_c0:c3≠c0:=fun e_=>by subst e_; simp_all
 refine AWp.heqA (h':=((H.set c2 (some (.map (seenM a2)))).set c3 (some (.map (seenM a3))))) (by funext n_; simp only [Heap.set]; (repeat' split)<;>simp_all) ?_;refine seqR (S Mv ?_);refine sLen (f:=TSel.c) (s:=a1) (TK rfl) rfl rfl rfl rfl fun hL2=>?_;refine S Mv (nil ?_);refine block ?_;refine loopH (TA 0 (TA 2 (TA 3 (TA 12 (TA 13 KeepsT.nil))))) (fun(z:Nat×Nat×(List Bs)×(List Bs))=>[(14,.a (.d (.int .i64 ((z.2.1:Nat):Int))))]) (fun z=>((H.set c2 (some (.map (seenM z.2.2.1)))).set c3 (some (.map (seenM z.2.2.2))))) (fun z=>z.1) (fun z=>Z31_l3 a0 a1 (Z31_n n) z.1 z.2.1 z.2.2.1 z.2.2.2=some r) ((a1.l.length+1),0,a2,a3) hE Weak.toA ?_
 rintro ⟨n3,s14_4,y5_c2,y6_c3⟩ hE K3 hK3;try dsimp only at hE
 cases n3 with
 | zero=>cases hE
 | succ n3 =>
   rw [Z31_l3] at hE;refine seqR (S BI (nil ?_));refine seqK fun K8 hK8=>?_;refine cE hE (fun hc9 hE=>?_) (fun hc9 hE=>?_)
   ·try dsimp only at hc9
    have hf9:=of_decide_eq_true hc9;refine sk hK8 ?_;clear hK8 K8;refine seqJH (TA 0 (TA 2 (TA 3 (TA 12 (TA 13 (TA 14 KeepsT.nil)))))) (fun(z:(List Bs)×(List Bs))=>[]) (fun z=>((H.set c2 (some (.map (seenM z.1)))).set c3 (some (.map (seenM z.2))))) (fun z=>Z31_j10 s14_4 ((Z31_l3 a0 a1 (Z31_n n) n3)) z.1 z.2=some r) ?_ ?_
    ·intro K10 hK10;refine block ?_;refine seqR ?_;obtain⟨x14,gx14,hE⟩:=bO hE;refine S (ix TSel.c s14_4 gx14) (S Ld ?_);refine Sl ?_;refine Sf ?_;refine nil ?_;refine freezeA 9 _ rfl (KA 0 (KA 2 (KA 3 (KA 12 (KA 13 (KA 14 Keeps.nil)))))) ?_;refine seqR (S Fv (S Ld (nil ?_)));refine block ?_;refine seqR (S BI (S As (nil ?_)));refine cE hE (fun hc17 hE=>?_) (fun hc17 hE=>?_)
     ·refine region ?_;refine S Mv (S Fv ?_);refine s0 (loadV (TK rfl) rfl rfl (congrArg (fun x=>some (A.d x)) (TSel.FSelsD_eq _))) rfl ?_;refine S Mv (S Mv ?_);obtain⟨x18,gx18,hE⟩:=bO hE;refine sH (callH rfl rfl (ih_29 gx18 _ hpG hpG hpG (by assumption))) rfl ?_;refine hq ((H.set c2 (some (.map (seenM x18.1)))).set c3 (some (.map (seenM x18.2)))) ?_;refine nil ?_;exact hK10 _ (x18.1,x18.2) Weak.toA hE
     refine seqR (S BI (S As (nil ?_)));refine cE hE (fun hc20 hE=>?_) (fun hc20 hE=>?_)
     ·refine seqR (S Mv (S NP ?_));refine s0 (fieldP (TK rfl) rfl rfl (TK rfl) rfl rfl) rfl ?_;refine s0 (fieldP (TK rfl) rfl rfl (TK rfl) rfl rfl) rfl ?_;refine s0 (loadP (TK rfl) rfl rfl hpG rfl) rfl ?_;refine sLen (f:=Z6.c) (s:=a0.Fq.FFrags) (TK rfl) rfl rfl rfl rfl fun hL22=>?_;refine S Mv (nil ?_);refine block ?_;refine loopH (TA 0 (TA 2 (TA 3 (TA 9 (TA 12 (TA 13 (TA 14 (TA 43 (TA 44 KeepsT.nil))))))))) (fun(z:Nat×Nat×(List Bs)×(List Bs))=>[(45,.a (.d (.int .i64 ((z.2.1:Nat):Int))))]) (fun z=>((H.set c2 (some (.map (seenM z.2.2.1)))).set c3 (some (.map (seenM z.2.2.2))))) (fun z=>z.1) (fun z=>Z31_l23 a0 s14_4 x14 ((Z31_l3 a0 a1 (Z31_n n) n3)) (Z31_n n) z.1 z.2.1 z.2.2.1 z.2.2.2=some r) ((a0.Fq.FFrags.l.length+1),0,y5_c2,y6_c3) hE Weak.toA ?_
      rintro ⟨n23,s45_24,y25_c2,y26_c3⟩ hE K23 hK23;try dsimp only at hE
      cases n23 with
      | zero=>cases hE
      | succ n23 =>
        rw [Z31_l23] at hE;refine seqR (S BI (nil ?_));refine seqK fun K28 hK28=>?_;refine cE hE (fun hc29 hE=>?_) (fun hc29 hE=>?_)
        ·try dsimp only at hc29
         have hf29:=of_decide_eq_true hc29;refine sk hK28 ?_;clear hK28 K28;refine seqJH (TA 0 (TA 2 (TA 3 (TA 9 (TA 12 (TA 13 (TA 14 (TA 43 (TA 44 (TA 45 KeepsT.nil)))))))))) (fun(z:(List Bs)×(List Bs))=>[]) (fun z=>((H.set c2 (some (.map (seenM z.1)))).set c3 (some (.map (seenM z.2))))) (fun z=>Z31_j30 s45_24 ((Z31_l23 a0 s14_4 x14 ((Z31_l3 a0 a1 (Z31_n n) n3)) (Z31_n n) n23)) z.1 z.2=some r) ?_ ?_
         ·intro K30 hK30;refine block ?_;refine seqR ?_;obtain⟨x34,gx34,hE⟩:=bO hE;refine S (ix Z6.c s45_24 gx34) (S Ld ?_);refine Sl ?_;refine Sf ?_;refine nil ?_;refine freezeA 11 _ rfl (KA 0 (KA 2 (KA 3 (KA 9 (KA 12 (KA 13 (KA 14 (KA 43 (KA 44 (KA 45 Keeps.nil)))))))))) ?_;refine seqR (S Fv (S Ld (S Fv (S Ld (S BS (S Mv (G0 Mv (G0 Fv ?_))))))));refine G1 56 rfl Ld ?_;refine gC rfl rfl (fun hC=>ungdA (k:=55) rfl (ungdA (k:=57) rfl (lookupSeen (TK rfl) rfl (TK rfl) (TK rfl) rfl rfl rfl rfl hpG))) rfl ?_
          refine G1 58 rfl NB ?_;refine S PA (nil ?_);refine cE hE (fun hc36 hE=>?_) (fun hc36 hE=>?_)
          ·refine seqR (S Mv (S Fv (S Ld ?_)));refine sHn (mapUpdate (TK rfl) rfl (TK rfl) rfl rfl rfl rfl hpG (seen_upd _ _) rfl) rfl rfl ?_;refine hq ((H.set c2 (some (.map (seenM y25_c2)))).set c3 (some (.map (seenM (insS y26_c3 x14.FName))))) ?_;refine nil ?_;refine region ?_;refine S Mv (S Fv (S Ld (S Mv (S Mv ?_))));obtain⟨x38,gx38,hE⟩:=bO hE;refine sH (callH rfl rfl (ih_29 gx38 _ hpG hpG hpG (by assumption))) rfl ?_
           refine hq ((H.set c2 (some (.map (seenM x38.1)))).set c3 (some (.map (seenM x38.2)))) ?_;refine nil ?_;exact hK30 _ (x38.1,x38.2) Weak.toA hE
          refine AWp.skip ?_;exact hK30 _ (y25_c2,y26_c3) Weak.toA hE
         rintro ⟨y31_c2,y32_c3⟩ hE;try dsimp only at hE
         unfold Z31_j30 at hE;refine region ?_;refine SI ?_;refine S Mv (nil ?_);exact hK23 _ (n23,(s45_24+1),y31_c2,y32_c3) Weak.toA hE (Nat.lt_succ_self _)
        refine AWp.exit ?_;exact hK10 _ (y25_c2,y26_c3) Weak.toA hE
     refine seqR (S Fv (S Ld (S BS (nil ?_))));refine cE hE (fun hc40 hE=>?_) (fun hc40 hE=>?_)
     ·refine region ?_;refine S Mv (S Fv (S Ld ?_));refine sHn (mapUpdate (TK rfl) rfl (TK rfl) rfl rfl rfl rfl hpG (seen_upd _ _) rfl) rfl rfl ?_;refine hq ((H.set c2 (some (.map (seenM (insS y5_c2 x14.FAlias))))).set c3 (some (.map (seenM y6_c3)))) ?_;refine nil ?_;exact hK10 _ ((insS y5_c2 x14.FAlias),y6_c3) Weak.toA hE
     refine region ?_;refine S Mv (S Fv (S Ld ?_));refine sHn (mapUpdate (TK rfl) rfl (TK rfl) rfl rfl rfl rfl hpG (seen_upd _ _) rfl) rfl rfl ?_;refine hq ((H.set c2 (some (.map (seenM (insS y5_c2 x14.FName))))).set c3 (some (.map (seenM y6_c3)))) ?_;refine nil ?_;exact hK10 _ ((insS y5_c2 x14.FName),y6_c3) Weak.toA hE
    rintro ⟨y11_c2,y12_c3⟩ hE;try dsimp only at hE
    unfold Z31_j10 at hE;refine region ?_;refine SI ?_;refine S Mv (nil ?_);exact hK3 _ (n3,(s14_4+1),y11_c2,y12_c3) Weak.toA hE (Nat.lt_succ_self _)
   refine AWp.exit ?_;repeat (first|refine xBlock_normal ?_|refine xThen_exit ?_|refine xBlock_exit ?_)
   obtain rfl:=Option.some.inj hE;refine retQ.normalF ((H.set c2 (some (.map (seenM y5_c2)))).set c3 (some (.map (seenM y6_c3)))) (xs:=[]) rfl ⟨rfl,rfl⟩ ?_;exact(fun _ _ h=>h)
theorem Z31_all:∀(n:Nat),(∀{a0:Z1}{a1:Sl TSel}{a2 a3:List Bs}{w1 q0_2:Option Nat}{c0 c2 c3:Nat}{r:((List Bs)×(List Bs))},Z31_n n a0 a1 a2 a3=some r->∀(H:Heap) (hc0:H c0=some (.cells (Z1.cg q0_2 a0))) (hc2:H c2=some (.map (seenM a2))) (hc3:H c3=some (.map (seenM a3))) (ne_c3_c2:c3≠c2),ACalls Tryz.prog 29 [.d (.ptr c0 0),.d (Sl.d 7 TSel.c w1 a1),.d (.map c2),.d (.map c3)] H fun v h'=>v=.tup []/\h'=((H.set c2 (some (.map (seenM r.1)))).set c3 (some (.map (seenM r.2)))))
 | 0=>fun hE=>by first|cases hE|(rw [Z31_n] at hE; cases hE)
 | n+1=>Z31_step n (Z31_all n)
def Z31 (a0:Z1) (a1:(Sl TSel)) (a2:(List Bs)) (a3:(List Bs)):Option ((List Bs)×(List Bs)):=Z31_n F0 a0 a1 a2 a3
theorem Z31_walk {a0:Z1}{a1:Sl TSel}{a2 a3:List Bs}{w1 q0_2:Option Nat}{c0 c2 c3:Nat}{r:((List Bs)×(List Bs))}(hE:Z31 a0 a1 a2 a3=some r) (H:Heap) (hc0:H c0=some (.cells (Z1.cg q0_2 a0))) (hc2:H c2=some (.map (seenM a2))) (hc3:H c3=some (.map (seenM a3))) (ne_c3_c2:c3≠c2):ACalls Tryz.prog 29 [.d (.ptr c0 0),.d (Sl.d 7 TSel.c w1 a1),.d (.map c2),.d (.map c3)] H fun v h'=>v=.tup []/\h'=((H.set c2 (some (.map (seenM r.1)))).set c3 (some (.map (seenM r.2)))):=(Z31_all F0) hE H hc0 hc2 hc3 ne_c3_c2
def Z26 (a0:Z1) (a1:Bool) (a2:Int) (a3:Bs):Option Z1:=bif a1 then((appC 24 a0.Fout (⟨false,[(Z4.mk a2 a3)]⟩:Sl Z4)).bind fun x3=>some (Z1.mk a0.Fd a0.Fq x3)) else(some a0)
theorem Z26_walk {a0:Z1}{a1:Bool}{a2:Int}{a3:Bs}{c0 c0_2:Nat}{r:Z1}(hE:Z26 a0 a1 a2 a3=some r) (H:Heap) (hc0:H c0=some (.cells (Z1.cg (some c0_2) a0))) (ht0_2:H c0_2=some (.tok 2 a0.Fout.l.length)):ACalls Tryz.prog 30 [.d (.ptr c0 0),.d (.bool a1),.d (.int .i64 a2),.d (.str a3)] H fun v h'=>v=.tup []/\h'=((H.set c0_2 (some (.tok 2 r.Fout.l.length))).set c0 (some (.cells (Z1.cg (some c0_2) r)))):=by
 unfold Z26 at hE;refine ACalls.oW 21 [] Tryz.call30 Tryz.func30 ?_;have ne_c0_c0_2:c0≠c0_2:=fun e_=>by subst e_; simp_all
 refine AWp.heqA (h':=((H.set c0_2 (some (.tok 2 a0.Fout.l.length))).set c0 (some (.cells (Z1.cg (some c0_2) a0))))) (by funext n_; simp only [Heap.set]; (repeat' split)<;>simp_all) ?_;refine seqR (S Mv (nil ?_));refine cE hE (fun hc2 hE=>?_) (fun hc2 hE=>?_)
 ·refine region ?_;refine S Mv (S Mv (S NP ?_));refine s0 (fieldP (TK rfl) rfl rfl (TK rfl) rfl rfl) rfl ?_;refine s0 (loadP (TK rfl) rfl rfl hpG rfl) rfl ?_;refine S Mv (S Mv (S BU (S BV ?_)));obtain⟨x3,gx3,hE⟩:=bO hE;refine SH (am Z4.c (TK rfl) rfl (TK rfl) (TK rfl) gx3) ?_;refine hq ((H.set c0_2 (some (.tok 2 x3.l.length))).set c0 (some (.cells (Z1.cg (some c0_2) a0)))) ?_;refine S NP ?_;refine s0 (fieldP (TK rfl) rfl rfl (TK rfl) rfl rfl) rfl ?_
  refine sHn (storeP1 (TK rfl) rfl rfl hpG rfl (by repeat (first|exact SetAt.zero|apply SetAt.succ))) rfl rfl ?_;refine hq ((H.set c0_2 (some (.tok 2 x3.l.length))).set c0 (some (.cells (Z1.cg (some c0_2) (Z1.mk a0.Fd a0.Fq x3))))) ?_;refine nil ?_;repeat (first|refine xBlock_normal ?_|refine xThen_exit ?_|refine xBlock_exit ?_)
  obtain rfl:=Option.some.inj hE;refine retQ.normalF ((H.set c0_2 (some (.tok 2 x3.l.length))).set c0 (some (.cells (Z1.cg (some c0_2) (Z1.mk a0.Fd a0.Fq x3))))) (xs:=[]) rfl ⟨rfl,rfl⟩ ?_;exact(fun _ _ h=>h)
 refine AWp.skip ?_;repeat (first|refine xBlock_normal ?_|refine xThen_exit ?_|refine xBlock_exit ?_)
 obtain rfl:=Option.some.inj hE;refine retQ.normalF ((H.set c0_2 (some (.tok 2 a0.Fout.l.length))).set c0 (some (.cells (Z1.cg (some c0_2) a0)))) (xs:=[]) rfl ⟨rfl,rfl⟩ ?_;exact(fun _ _ h=>h)
def Z125 (a0:TRef):Option TRef:=(Z123 a0).bind fun x4=>bif x4 then((Z104 a0.FWraps).bind fun x7=>some (TRef.mk a0.FName x7)) else((appC 8 (⟨false,[(1:Int)]⟩:Sl Int) a0.FWraps).bind fun x9=>some (TRef.mk a0.FName x9))
theorem Z125_walk {a0 r:TRef}(hE:Z125 a0=some r) (H:Heap) :ACalls Tryz.prog 60 [.agg (TRef.c a0)] H fun v h'=>v=.a (.agg (TRef.c r))/\h'=H:=by
 unfold Z125 at hE;refine ACalls.oW 18 [.cell 2 90] Tryz.call60 Tryz.func60 ?_;refine seqR (S BX ?_);refine Sl ?_;refine nil ?_;refine seqK fun K2 hK2=>?_;refine seqR (S Ld ?_);obtain⟨x4,gx4,hE⟩:=bO hE;refine Sc rfl rfl (Z123_walk gx4) ?_;refine nil ?_;refine cE hE (fun hc5 hE=>?_) (fun hc5 hE=>?_)
 ·refine AWp.seqD (Sd Fv (Sd Ld (Sd Fv (Sd Ld ?_))));obtain⟨x7,gx7,hE⟩:=bO hE;refine Scd rfl rfl (Z104_walk gx7) ?_;refine Sd BU ?_;refine DOps.sLn (storeLFA (TK rfl) rfl rfl rfl rfl rfl) ?_;refine DOps.nil (by decide +kernel) ?_;exact rt hE
 refine sk hK2 ?_;clear hK2 K2;refine AWp.seqD (Sd Fv (Sd Ld ?_));refine DOps.s0 (buildSliceF (TK rfl) rfl (TK rfl) rfl rfl rfl rfl rfl rfl) rfl ?_;refine Sd Fv (Sd Ld ?_);obtain⟨x9,gx9,hE⟩:=bO hE;refine DOps.s0 (appFM (f:=(intE .i64)) (TK rfl) rfl (TK rfl) (TK rfl) ⟨_,rfl⟩ rfl rfl (by decide) rfl rfl rfl (by intro q h; cases h<;>decide) rfl rfl gx9) rfl ?_;refine Sd BU ?_;refine DOps.sLn (storeLFA (TK rfl) rfl rfl rfl rfl rfl) ?_
 refine DOps.nil (by decide +kernel) ?_;exact rt hE
def Z124 (a0:Bs):Option TRef:=some (TRef.mk a0 (Sl.nil:Sl Int))
theorem Z124_walk {a0:Bs}{r:TRef}(hE:Z124 a0=some r) (H:Heap) :ACalls Tryz.prog 61 [.d (.str a0)] H fun v h'=>v=.a (.agg (TRef.c r))/\h'=H:=by
 unfold Z124 at hE;refine ACalls.oW 5 [.cell 2 90] Tryz.call61 Tryz.func61 ?_;refine seqR ?_;refine Sl ?_;refine nil ?_;refine seqR (S Mv (S BU ?_));refine Sf ?_;refine nil ?_;exact rt hE
def Z34 (a0:Bs) (a1:Bs):Option Z7:=(Z124 a1).bind fun x3=>(Z125 x3).bind fun x4=>some (Z7.mk a0 x4 false Z10.zero (Sl.nil:Sl TDir))
theorem Z34_walk {a0 a1:Bs}{r:Z7}(hE:Z34 a0 a1=some r) (H:Heap) :ACalls Tryz.prog 109 [.d (.str a0),.d (.str a1)] H fun v h'=>v=.a (.agg (Z7.c r))/\h'=H:=by
 unfold Z34 at hE;refine ACalls.oW 10 [.cell 4 122] Tryz.call109 Tryz.func109 ?_;refine seqR ?_;refine Sl ?_;refine nil ?_;refine seqR (S Mv (S Mv ?_));obtain⟨x3,gx3,hE⟩:=bO hE;refine Sc rfl rfl (Z124_walk gx3) ?_;obtain⟨x4,gx4,hE⟩:=bO hE;refine Sc rfl rfl (Z125_walk gx4) ?_;refine S BU ?_;refine Sf ?_;refine nil ?_;exact rt hE
def Z25 (a0:Bs) (a1:Bool):Option (Sl Z7):=bif (((a0==([115,107,105,112]:Bs)))||((a0==([105,110,99,108,117,100,101]:Bs)))) then((Z34 ([105,102]:Bs) ([66,111,111,108,101,97,110]:Bs)).bind fun x6=>some (⟨false,[x6]⟩:Sl Z7)) else(bif (((a0==([100,101,102,101,114]:Bs)))&&(!a1)) then((Z34 ([108,97,98,101,108]:Bs) ([83,116,114,105,110,103]:Bs)).bind fun x10=>some (⟨false,[x10]⟩:Sl Z7)) else(bif (((a0==([115,116,114,101,97,109]:Bs)))&&a1) then((Z34 ([108,97,98,101,108]:Bs) ([83,116,114,105,110,103]:Bs)).bind fun x14=>(Z34 ([105,110,105,116,105,97,108,67,111,117,110,116]:Bs) ([73,110,116]:Bs)).bind fun x15=>some (⟨false,[x14,x15]⟩:Sl Z7)) else(some (Sl.nil:Sl Z7))))
theorem Z25_walk {a0:Bs}{a1:Bool}{r:Sl Z7}(hE:Z25 a0 a1=some r) (H:Heap) :ACalls Tryz.prog 87 [.d (.str a0),.d (.bool a1)] H fun v h'=>v=.a (.d (Sl.d 10 Z7.c none r))/\h'=H:=by
 unfold Z25 at hE;refine ACalls.oW 32 [.tmp 4] Tryz.call87 Tryz.func87 ?_;refine seqR ?_;refine s0 (assignNil (k':=10) rfl) rfl ?_;refine nil ?_;refine seqK fun K2 hK2=>?_;refine block ?_;refine seqR (S Mv (S BS (S Mv (G0 Mv ?_))));refine G1 9 rfl BS ?_;refine S PO (S As (nil ?_));refine cE hE (fun hc4 hE=>?_) (fun hc4 hE=>?_)
 ·refine seqR ?_;obtain⟨x6,gx6,hE⟩:=bO hE;refine Sc rfl rfl (Z34_walk gx6) ?_;refine S BV (S As (nil ?_));exact rt hE
 refine seqR (S Mv (S BS (S Mv (G0 Mv ?_))));refine G1 18 rfl NB ?_;refine S PA (S As (nil ?_));refine cE hE (fun hc8 hE=>?_) (fun hc8 hE=>?_)
 ·refine seqR ?_;obtain⟨x10,gx10,hE⟩:=bO hE;refine Sc rfl rfl (Z34_walk gx10) ?_;refine S BV (S As (nil ?_));exact rt hE
 refine seqR (S Mv (S BS (S Mv (G0 Mv (S PA (S As (nil ?_)))))));refine cE hE (fun hc12 hE=>?_) (fun hc12 hE=>?_)
 ·refine seqR ?_;obtain⟨x14,gx14,hE⟩:=bO hE;refine Sc rfl rfl (Z34_walk gx14) ?_;obtain⟨x15,gx15,hE⟩:=bO hE;refine Sc rfl rfl (Z34_walk gx15) ?_;refine S BV (S As (nil ?_));exact rt hE
 refine sk hK2 ?_;clear hK2 K2;refine seqR ?_;refine s0 (assignNil (k':=10) rfl) rfl ?_;refine nil ?_;exact rt hE
end Go.Proofs

namespace Go.Proofs
open Go Go.Ab
open AOps Cert AWp Keeps KeepsT
variable {lou:Lou}
def Z113_j2  :Option Int:=some (-1:Int)
def Z113_l6 (a0:(Sl TDir)) (a1:(TDir->Option Bool)) :Nat->Nat->Option Int
 | 0,_=>none
 | n6+1,s8_7=>bif (decide (((s8_7:Nat):Int)<((a0.l.length:Nat):Int))) then((a0.l[s8_7]?).bind fun x14=>(a1 x14).bind fun x15=>bif x15 then(some ((s8_7:Nat):Int)) else((Z113_l6 a0 a1 n6) (s8_7+1))) else(Z113_j2   )
def Z113 (a0:(Sl TDir)) (a1:(TDir->Option Bool)):Option Int:=Z113_l6 a0 a1 (a0.l.length+1) 0
theorem Z113_walk {a0:Sl TDir}{a1:TDir->Option Bool}{w0:Option Nat}{cl1:List D}{k1:Nat}{r:Int}(hE:Z113 a0 a1=some r) (H:Heap) (hf1:∀x0 r,a1 x0=some r->∀H,ACalls Tryz.prog k1 ([.agg (TDir.c x0)]++cl1.map A.d) H fun v h'=>v=.a (.d (.bool r))/\h'=H):ACalls Tryz.prog 110 [.d (Sl.d 2 TDir.c w0 a0),.d (.func k1 cl1)] H fun v h'=>v=.a (.d (.int .i64 r))/\h'=H:=by
 unfold Z113 at hE;refine ACalls.oW 19 [.tmp 4] Tryz.call110 Tryz.func110 ?_;refine seqR (S As (nil ?_));refine seqJH KeepsT.nil (fun(z:Unit)=>[]) (fun z=>H) (fun z=>Z113_j2 =some r) ?_ ?_
 ·intro K2 hK2;refine seqR (S Mv ?_);refine sLen (f:=TDir.c) (s:=a0) (TK rfl) rfl rfl rfl rfl fun hL5=>?_;refine S Mv (nil ?_);refine block ?_;refine loopH (TA 0 (TA 1 (TA 7 KeepsT.nil))) (fun(z:Nat×Nat)=>[(8,.a (.d (.int .i64 ((z.2:Nat):Int))))]) (fun z=>H) (fun z=>z.1) (fun z=>Z113_l6 a0 a1 z.1 z.2=some r) ((a0.l.length+1),0) hE Weak.toA ?_;rintro ⟨n6,s8_7⟩ hE K6 hK6;try dsimp only at hE
  cases n6 with
  | zero=>cases hE
  | succ n6 =>
    rw [Z113_l6] at hE;refine seqR (S BI (nil ?_));refine seqK fun K9 hK9=>?_;refine cE hE (fun hc10 hE=>?_) (fun hc10 hE=>?_)
    ·try dsimp only at hc10
     have hf10:=of_decide_eq_true hc10;refine sk hK9 ?_;clear hK9 K9;refine seqK fun K11 hK11=>?_;refine block ?_;refine seqR (S Mv (S As (nil ?_)));refine seqR (S Mv (S Mv (S Mv ?_)));obtain⟨x14,gx14,hE⟩:=bO hE;refine S (ix TDir.c s8_7 gx14) (S Ld ?_);obtain⟨x15,gx15,hE⟩:=bO hE;refine s0 (callP rfl rfl (hf1 _ _ gx15)) rfl ?_;refine nil ?_;refine cE hE (fun hc16 hE=>?_) (fun hc16 hE=>?_)
     ·refine seqR (S Mv (S As (nil ?_)));exact rt hE
     refine sk hK11 ?_;clear hK11 K11;refine region ?_;refine SI ?_;refine S Mv (nil ?_);exact hK6 _ (n6,(s8_7+1)) Weak.toA hE (Nat.lt_succ_self _)
    refine AWp.exit ?_;exact hK2 _ () Weak.toA hE
 rintro _ hE;try dsimp only at hE
 unfold Z113_j2 at hE;refine seqR (S As (nil ?_));exact rt hE
def Z106 (a0:(Sl TDir)) (a1:(TDir->Option Bool)):Option Bool:=(Z113 a0 a1).bind fun x3=>some (decide ((0:Int)<=x3))
theorem Z106_walk {a0:Sl TDir}{a1:TDir->Option Bool}{w0:Option Nat}{cl1:List D}{k1:Nat}{r:Bool}(hE:Z106 a0 a1=some r) (H:Heap) (hf1:∀x0 r,a1 x0=some r->∀H,ACalls Tryz.prog k1 ([.agg (TDir.c x0)]++cl1.map A.d) H fun v h'=>v=.a (.d (.bool r))/\h'=H):ACalls Tryz.prog 89 [.d (Sl.d 2 TDir.c w0 a0),.d (.func k1 cl1)] H fun v h'=>v=.a (.d (.bool r))/\h'=H:=by
 unfold Z106 at hE;refine ACalls.oW 9 [.tmp 4] Tryz.call89 Tryz.func89 ?_;refine seqR (S As (nil ?_));refine seqR (S Mv (S Mv ?_));obtain⟨x3,gx3,hE⟩:=bO hE;refine s0 (callP rfl rfl (fun H=>Z113_walk gx3 H hf1)) rfl ?_;refine S BI (S As (nil ?_));exact rt hE
def Z28 (a0:TDir) (a1:TDir):Option Bool:=some ((a0.FName==a1.FName))
theorem Z28_walk {a0 a1:TDir}{r:Bool}(hE:Z28 a0 a1=some r) (H:Heap) :ACalls Tryz.prog 90 [.agg (TDir.c a0),.d (.view (TDir.c a1))] H fun v h'=>v=.a (.d (.bool r))/\h'=H:=by
 unfold Z28 at hE;refine ACalls.oW 9 [.tmp 3] Tryz.call90 Tryz.func90 ?_;refine seqR (S BX (S As (nil ?_)));refine seqR (S Fv (S Ld (S Fv (S Ld (S BS (S As (nil ?_)))))));exact rt hE
def Z33_j2  (y3_l0:Z10):Option (Z10×Bool):=some ((Z10.mk (0:Int) (0:Int) ([]:Bs) true ([]) (Sl.nil:Sl Bs)),false)
def Z33_l7 (a0:(Sl TArg)) (a1:Bs) :Nat->Nat->Z10->Option (Z10×Bool)
 | 0,_,_=>none
 | n7+1,s10_8,y9_l0=>bif (decide (((s10_8:Nat):Int)<((a0.l.length:Nat):Int))) then((a0.l[s10_8]?).bind fun x15=>bif ((x15.FName==a1)) then(some (x15.FValue,true)) else((Z33_l7 a0 a1 n7) (s10_8+1) y9_l0)) else(Z33_j2   y9_l0)
def Z33 (a0:(Sl TArg)) (a1:Bs):Option (Z10×Bool):=Z33_l7 a0 a1 (a0.l.length+1) 0 Z10.zero
theorem Z33_walk {a0:Sl TArg}{a1:Bs}{w0:Option Nat}{r:Z10×Bool}(hE:Z33 a0 a1=some r) (H:Heap) :ACalls Tryz.prog 92 [.d (Sl.d 6 TArg.c w0 a0),.d (.str a1)] H fun v h'=>v=.tup [.agg (Z10.c r.1),.d (.bool r.2)]/\h'=H:=by
 unfold Z33 at hE;refine ACalls.oW 22 [.cell 4 120,.tmp 5] Tryz.call92 Tryz.func92 ?_;refine seqR ?_;refine Sl ?_;refine S As (nil ?_);refine seqJ (TA 4 KeepsT.nil) (fun(z:Z10)=>[]) (fun z=>[Z10.c z]) (fun z=>H) (fun z=>Z33_j2 z=some r) ?_ ?_
 ·intro K2 hK2;refine seqR (S Mv ?_);refine sLen (f:=TArg.c) (s:=a0) (TK rfl) rfl rfl rfl rfl fun hL6=>?_;refine S Mv (nil ?_);refine block ?_;refine loopO (TA 1 (TA 4 (TA 8 (TA 9 KeepsT.nil)))) (fun(z:Nat×Nat×Z10)=>[(10,.a (.d (.int .i64 ((z.2.1:Nat):Int))))]) (fun z=>[Z10.c z.2.2]) (fun z=>H) (fun z=>z.1) (fun z=>Z33_l7 a0 a1 z.1 z.2.1 z.2.2=some r) ((a0.l.length+1),0,Z10.zero) hE Weak.toA ?_;rintro ⟨n7,s10_8,y9_l0⟩ hE K7 hK7
  try dsimp only at hE
  cases n7 with
  | zero=>cases hE
  | succ n7 =>
    rw [Z33_l7] at hE;refine seqR (S BI (nil ?_));refine seqK fun K11 hK11=>?_;refine cE hE (fun hc12 hE=>?_) (fun hc12 hE=>?_)
    ·try dsimp only at hc12
     have hf12:=of_decide_eq_true hc12;refine sk hK11 ?_;clear hK11 K11;refine seqK fun K13 hK13=>?_;refine block ?_;refine seqR ?_;obtain⟨x15,gx15,hE⟩:=bO hE;refine S (ix TArg.c s10_8 gx15) (S Ld ?_);refine Sl ?_;refine Sf ?_;refine nil ?_;refine freezeA 7 _ rfl (KA 1 (KA 4 (KA 8 (KA 9 (KA 10 Keeps.nil))))) ?_;refine seqR (S Fv (S Ld (S Mv (S BS (nil ?_)))));refine cE hE (fun hc17 hE=>?_) (fun hc17 hE=>?_)
     ·refine seqR (S Fv (S Ld ?_));refine Sf ?_;refine S As (nil ?_);exact rt hE
     refine sk hK13 ?_;clear hK13 K13;refine region ?_;refine SI ?_;refine S Mv (nil ?_);exact hK7 _ (n7,(s10_8+1),y9_l0) Weak.toA hE (Nat.lt_succ_self _)
    refine AWp.exit ?_;exact hK2 _ y9_l0 Weak.toA hE
 rintro y3_l0 hE;try dsimp only at hE
 unfold Z33_j2 at hE;refine seqR (S BU ?_);refine Sf ?_;refine S As (nil ?_);exact rt hE
def Z112_j2  :Option Int:=some (-1:Int)
def Z112_l6 (a0:(Sl Z10)) (a1:(Z10->Option Bool)) :Nat->Nat->Option Int
 | 0,_=>none
 | n6+1,s8_7=>bif (decide (((s8_7:Nat):Int)<((a0.l.length:Nat):Int))) then((a0.l[s8_7]?).bind fun x14=>(a1 x14).bind fun x15=>bif x15 then(some ((s8_7:Nat):Int)) else((Z112_l6 a0 a1 n6) (s8_7+1))) else(Z112_j2   )
def Z112 (a0:(Sl Z10)) (a1:(Z10->Option Bool)):Option Int:=Z112_l6 a0 a1 (a0.l.length+1) 0
theorem Z112_walk {a0:Sl Z10}{a1:Z10->Option Bool}{w0:Option Nat}{cl1:List D}{k1:Nat}{r:Int}(hE:Z112 a0 a1=some r) (H:Heap) (hf1:∀x0 r,a1 x0=some r->∀H,ACalls Tryz.prog k1 ([.agg (Z10.c x0)]++cl1.map A.d) H fun v h'=>v=.a (.d (.bool r))/\h'=H):ACalls Tryz.prog 120 [.d (Sl.d 5 Z10.c w0 a0),.d (.func k1 cl1)] H fun v h'=>v=.a (.d (.int .i64 r))/\h'=H:=by
 unfold Z112 at hE;refine ACalls.oW 19 [.tmp 4] Tryz.call120 Tryz.func120 ?_;refine seqR (S As (nil ?_));refine seqJH KeepsT.nil (fun(z:Unit)=>[]) (fun z=>H) (fun z=>Z112_j2 =some r) ?_ ?_
 ·intro K2 hK2;refine seqR (S Mv ?_);refine sLen (f:=Z10.c) (s:=a0) (TK rfl) rfl rfl rfl rfl fun hL5=>?_;refine S Mv (nil ?_);refine block ?_;refine loopH (TA 0 (TA 1 (TA 7 KeepsT.nil))) (fun(z:Nat×Nat)=>[(8,.a (.d (.int .i64 ((z.2:Nat):Int))))]) (fun z=>H) (fun z=>z.1) (fun z=>Z112_l6 a0 a1 z.1 z.2=some r) ((a0.l.length+1),0) hE Weak.toA ?_;rintro ⟨n6,s8_7⟩ hE K6 hK6;try dsimp only at hE
  cases n6 with
  | zero=>cases hE
  | succ n6 =>
    rw [Z112_l6] at hE;refine seqR (S BI (nil ?_));refine seqK fun K9 hK9=>?_;refine cE hE (fun hc10 hE=>?_) (fun hc10 hE=>?_)
    ·try dsimp only at hc10
     have hf10:=of_decide_eq_true hc10;refine sk hK9 ?_;clear hK9 K9;refine seqK fun K11 hK11=>?_;refine block ?_;refine seqR (S Mv (S As (nil ?_)));refine seqR (S Mv (S Mv (S Mv ?_)));obtain⟨x14,gx14,hE⟩:=bO hE;refine S (ix Z10.c s8_7 gx14) (S Ld ?_);obtain⟨x15,gx15,hE⟩:=bO hE;refine s0 (callP rfl rfl (hf1 _ _ gx15)) rfl ?_;refine nil ?_;refine cE hE (fun hc16 hE=>?_) (fun hc16 hE=>?_)
     ·refine seqR (S Mv (S As (nil ?_)));exact rt hE
     refine sk hK11 ?_;clear hK11 K11;refine region ?_;refine SI ?_;refine S Mv (nil ?_);exact hK6 _ (n6,(s8_7+1)) Weak.toA hE (Nat.lt_succ_self _)
    refine AWp.exit ?_;exact hK2 _ () Weak.toA hE
 rintro _ hE;try dsimp only at hE
 unfold Z112_j2 at hE;refine seqR (S As (nil ?_));exact rt hE
def Z105 (a0:(Sl Z10)) (a1:(Z10->Option Bool)):Option Bool:=(Z112 a0 a1).bind fun x3=>some (decide ((0:Int)<=x3))
theorem Z105_walk {a0:Sl Z10}{a1:Z10->Option Bool}{w0:Option Nat}{cl1:List D}{k1:Nat}{r:Bool}(hE:Z105 a0 a1=some r) (H:Heap) (hf1:∀x0 r,a1 x0=some r->∀H,ACalls Tryz.prog k1 ([.agg (Z10.c x0)]++cl1.map A.d) H fun v h'=>v=.a (.d (.bool r))/\h'=H):ACalls Tryz.prog 115 [.d (Sl.d 5 Z10.c w0 a0),.d (.func k1 cl1)] H fun v h'=>v=.a (.d (.bool r))/\h'=H:=by
 unfold Z105 at hE;refine ACalls.oW 9 [.tmp 4] Tryz.call115 Tryz.func115 ?_;refine seqR (S As (nil ?_));refine seqR (S Mv (S Mv ?_));obtain⟨x3,gx3,hE⟩:=bO hE;refine s0 (callP rfl rfl (fun H=>Z112_walk gx3 H hf1)) rfl ?_;refine S BI (S As (nil ?_));exact rt hE
def Z32 (a0:Z8) (a1:Z10):Option Bool:=some ((a0.FName==a1.FText))
theorem Z32_walk {a0:Z8}{a1:Z10}{r:Bool}(hE:Z32 a0 a1=some r) (H:Heap) :ACalls Tryz.prog 117 [.agg (Z8.c a0),.d (.view (Z10.c a1))] H fun v h'=>v=.a (.d (.bool r))/\h'=H:=by
 unfold Z32 at hE;refine ACalls.oW 9 [.tmp 3] Tryz.call117 Tryz.func117 ?_;refine seqR (S BX (S As (nil ?_)));refine seqR (S Fv (S Ld (S Fv (S Ld (S BS (S As (nil ?_)))))));exact rt hE
def Z115_j2  :Option Int:=some (-1:Int)
def Z115_l6 (a0:(Sl Z7)) (a1:(Z7->Option Bool)) :Nat->Nat->Option Int
 | 0,_=>none
 | n6+1,s8_7=>bif (decide (((s8_7:Nat):Int)<((a0.l.length:Nat):Int))) then((a0.l[s8_7]?).bind fun x14=>(a1 x14).bind fun x15=>bif x15 then(some ((s8_7:Nat):Int)) else((Z115_l6 a0 a1 n6) (s8_7+1))) else(Z115_j2   )
def Z115 (a0:(Sl Z7)) (a1:(Z7->Option Bool)):Option Int:=Z115_l6 a0 a1 (a0.l.length+1) 0
theorem Z115_walk {a0:Sl Z7}{a1:Z7->Option Bool}{w0:Option Nat}{cl1:List D}{k1:Nat}{r:Int}(hE:Z115 a0 a1=some r) (H:Heap) (hf1:∀x0 r,a1 x0=some r->∀H,ACalls Tryz.prog k1 ([.agg (Z7.c x0)]++cl1.map A.d) H fun v h'=>v=.a (.d (.bool r))/\h'=H):ACalls Tryz.prog 123 [.d (Sl.d 10 Z7.c w0 a0),.d (.func k1 cl1)] H fun v h'=>v=.a (.d (.int .i64 r))/\h'=H:=by
 unfold Z115 at hE;refine ACalls.oW 19 [.tmp 4] Tryz.call123 Tryz.func123 ?_;refine seqR (S As (nil ?_));refine seqJH KeepsT.nil (fun(z:Unit)=>[]) (fun z=>H) (fun z=>Z115_j2 =some r) ?_ ?_
 ·intro K2 hK2;refine seqR (S Mv ?_);refine sLen (f:=Z7.c) (s:=a0) (TK rfl) rfl rfl rfl rfl fun hL5=>?_;refine S Mv (nil ?_);refine block ?_;refine loopH (TA 0 (TA 1 (TA 7 KeepsT.nil))) (fun(z:Nat×Nat)=>[(8,.a (.d (.int .i64 ((z.2:Nat):Int))))]) (fun z=>H) (fun z=>z.1) (fun z=>Z115_l6 a0 a1 z.1 z.2=some r) ((a0.l.length+1),0) hE Weak.toA ?_;rintro ⟨n6,s8_7⟩ hE K6 hK6;try dsimp only at hE
  cases n6 with
  | zero=>cases hE
  | succ n6 =>
    rw [Z115_l6] at hE;refine seqR (S BI (nil ?_));refine seqK fun K9 hK9=>?_;refine cE hE (fun hc10 hE=>?_) (fun hc10 hE=>?_)
    ·try dsimp only at hc10
     have hf10:=of_decide_eq_true hc10;refine sk hK9 ?_;clear hK9 K9;refine seqK fun K11 hK11=>?_;refine block ?_;refine seqR (S Mv (S As (nil ?_)));refine seqR (S Mv (S Mv (S Mv ?_)));obtain⟨x14,gx14,hE⟩:=bO hE;refine S (ix Z7.c s8_7 gx14) (S Ld ?_);obtain⟨x15,gx15,hE⟩:=bO hE;refine s0 (callP rfl rfl (hf1 _ _ gx15)) rfl ?_;refine nil ?_;refine cE hE (fun hc16 hE=>?_) (fun hc16 hE=>?_)
     ·refine seqR (S Mv (S As (nil ?_)));exact rt hE
     refine sk hK11 ?_;clear hK11 K11;refine region ?_;refine SI ?_;refine S Mv (nil ?_);exact hK6 _ (n6,(s8_7+1)) Weak.toA hE (Nat.lt_succ_self _)
    refine AWp.exit ?_;exact hK2 _ () Weak.toA hE
 rintro _ hE;try dsimp only at hE
 unfold Z115_j2 at hE;refine seqR (S As (nil ?_));exact rt hE
def Z108 (a0:(Sl Z7)) (a1:(Z7->Option Bool)):Option Bool:=(Z115 a0 a1).bind fun x3=>some (decide ((0:Int)<=x3))
theorem Z108_walk {a0:Sl Z7}{a1:Z7->Option Bool}{w0:Option Nat}{cl1:List D}{k1:Nat}{r:Bool}(hE:Z108 a0 a1=some r) (H:Heap) (hf1:∀x0 r,a1 x0=some r->∀H,ACalls Tryz.prog k1 ([.agg (Z7.c x0)]++cl1.map A.d) H fun v h'=>v=.a (.d (.bool r))/\h'=H):ACalls Tryz.prog 121 [.d (Sl.d 10 Z7.c w0 a0),.d (.func k1 cl1)] H fun v h'=>v=.a (.d (.bool r))/\h'=H:=by
 unfold Z108 at hE;refine ACalls.oW 9 [.tmp 4] Tryz.call121 Tryz.func121 ?_;refine seqR (S As (nil ?_));refine seqR (S Mv (S Mv ?_));obtain⟨x3,gx3,hE⟩:=bO hE;refine s0 (callP rfl rfl (fun H=>Z115_walk gx3 H hf1)) rfl ?_;refine S BI (S As (nil ?_));exact rt hE
def Z36 (a0:Z7) (a1:Z10):Option Bool:=(Z123 a0.FType).bind fun x3=>guardO ((x3&&(!a0.FHas))) (Z110 a1.FKeys a0.FName) false fun x4=>some ((x3&&(!a0.FHas))&&(!x4))
theorem Z36_walk {a0:Z7}{a1:Z10}{r:Bool}(hE:Z36 a0 a1=some r) (H:Heap) :ACalls Tryz.prog 122 [.agg (Z7.c a0),.d (.view (Z10.c a1))] H fun v h'=>v=.a (.d (.bool r))/\h'=H:=by
 unfold Z36 at hE;refine ACalls.oW 20 [.tmp 3] Tryz.call122 Tryz.func122 ?_;refine seqR (S BX (S As (nil ?_)));refine seqR (S Fv (S Ld ?_));obtain⟨x3,gx3,hE⟩:=bO hE;refine Sc rfl rfl (Z123_walk gx3) ?_;refine S Mv (G0 Fv ?_);refine G1 8 rfl Ld ?_;refine G1 9 rfl NB ?_;refine S PA (S Mv (G0 Fv ?_));refine G1 13 rfl Ld ?_;refine G0 Fv ?_;refine G1 15 rfl Ld ?_;obtain⟨x4,gx4,hE⟩:=gO hE;refine Gc2 14 16 rfl rfl rfl rfl rfl rfl (fun hC=>Z110_walk (gx4 hC)) ?_
 refine G1 17 rfl NB ?_;refine S PA (S As (nil ?_));exact rt hE
end Go.Proofs
