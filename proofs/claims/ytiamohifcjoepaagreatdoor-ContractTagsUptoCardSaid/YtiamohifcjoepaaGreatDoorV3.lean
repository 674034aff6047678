import Derived.Test.YtiamohifcjoepaaGreatDoorV2
import Derived.Test.YtiamohifcjoepaaGreatDoorRows
set_option maxRecDepth 100000
set_option maxHeartbeats 2000000
set_option linter.unusedVariables false
set_option linter.unusedSimpArgs false
namespace Go.Proofs
open Go Go.Ab
open AOps Cert AWp Keeps KeepsT
variable {lou:Lou}
def Z47 :Option Bool:=(Z48 ([120]:Bs)).bind fun x3=>(Z26 (TDoc.mk (⟨false,[(TDef.mk (1:Int) ([81,117,101,114,121]:Bs) (Sl.nil:Sl Bs) (Sl.nil:Sl TDir) (⟨false,[(Z6.mk ([97]:Bs) (Sl.nil:Sl Z7) (TRef.mk ([73,110,116]:Bs) (Sl.nil:Sl Int)) x3),(Z6.mk ([98]:Bs) (Sl.nil:Sl Z7) (TRef.mk ([73,110,116]:Bs) (Sl.nil:Sl Int)) (Sl.nil:Sl TDir))]⟩:Sl Z6) (Sl.nil:Sl Z8) (Sl.nil:Sl Z7)),(TDef.mk (1:Int) ([84]:Bs) (Sl.nil:Sl Bs) (Sl.nil:Sl TDir) (⟨false,[(Z6.mk ([97]:Bs) (Sl.nil:Sl Z7) (TRef.mk ([73,110,116]:Bs) (Sl.nil:Sl Int)) (Sl.nil:Sl TDir))]⟩:Sl Z6) (Sl.nil:Sl Z8) (Sl.nil:Sl Z7))]⟩:Sl TDef)) (⟨false,[([120]:Bs)]⟩:Sl Bs) (Sl.nil:Sl Bs)).bind fun x5=>guardO (((decide (((x5.2.l.length:Nat):Int)=(0:Int)))&&(decide (((x5.1.FDefs.l.length:Nat):Int)=(1:Int))))) (x5.1.FDefs.l[0]?) TDef.zero fun x8=>guardO ((((decide (((x5.2.l.length:Nat):Int)=(0:Int)))&&(decide (((x5.1.FDefs.l.length:Nat):Int)=(1:Int))))&&(decide (((x8.FFields.l.length:Nat):Int)=(1:Int))))) (x5.1.FDefs.l[0]?) TDef.zero fun x9=>guardO ((((decide (((x5.2.l.length:Nat):Int)=(0:Int)))&&(decide (((x5.1.FDefs.l.length:Nat):Int)=(1:Int))))&&(decide (((x8.FFields.l.length:Nat):Int)=(1:Int))))) (x9.FFields.l[0]?) Z6.zero fun x10=>guardO (((((decide (((x5.2.l.length:Nat):Int)=(0:Int)))&&(decide (((x5.1.FDefs.l.length:Nat):Int)=(1:Int))))&&(decide (((x8.FFields.l.length:Nat):Int)=(1:Int))))&&((x10.FName==([97]:Bs))))) (Z27 (TDoc.mk (⟨false,[(TDef.mk (1:Int) ([81,117,101,114,121]:Bs) (Sl.nil:Sl Bs) (Sl.nil:Sl TDir) (⟨false,[(Z6.mk ([97]:Bs) (Sl.nil:Sl Z7) (TRef.mk ([73,110,116]:Bs) (Sl.nil:Sl Int)) x3),(Z6.mk ([98]:Bs) (Sl.nil:Sl Z7) (TRef.mk ([73,110,116]:Bs) (Sl.nil:Sl Int)) (Sl.nil:Sl TDir))]⟩:Sl Z6) (Sl.nil:Sl Z8) (Sl.nil:Sl Z7)),(TDef.mk (1:Int) ([84]:Bs) (Sl.nil:Sl Bs) (Sl.nil:Sl TDir) (⟨false,[(Z6.mk ([97]:Bs) (Sl.nil:Sl Z7) (TRef.mk ([73,110,116]:Bs) (Sl.nil:Sl Int)) (Sl.nil:Sl TDir))]⟩:Sl Z6) (Sl.nil:Sl Z8) (Sl.nil:Sl Z7))]⟩:Sl TDef))) TDoc.zero fun x11=>some (((((decide (((x5.2.l.length:Nat):Int)=(0:Int)))&&(decide (((x5.1.FDefs.l.length:Nat):Int)=(1:Int))))&&(decide (((x8.FFields.l.length:Nat):Int)=(1:Int))))&&((x10.FName==([97]:Bs))))&&(decide (((x11.FDefs.l.length:Nat):Int)=(1:Int))))
theorem Z47_walk    {r:Bool}(hE:Z47 =some r) (H:Heap) :AC Tryz.prog 4 [] H fun v h'=>v=.a (.d (.bool r))/\h'=H:=by
 unfold Z47 at hE;refine AC.oW 59 [.tmp 0] Tryz.call4 Tryz.func4 ?_;refine seqR (S As (nil ?_));refine seqR (S BU ?_);obtain⟨x3,gx3,hE⟩:=bO hE;refine Sc rfl rfl (Z48_walk gx3) ?_;refine S BU (S BU (S BU (S BV (S BU (S BU (S BU (S BV (S BU (S BV (S BU ?_))))))))));refine Sl ?_;refine Sf ?_;refine nil ?_;refine freezeA 1 _ rfl Keeps.nil ?_;refine seqR (S Ld (S BV ?_));obtain⟨x5,gx5,hE⟩:=bO hE;refine s0 (callP rfl rfl (fun H=>AC.asArgs (.cons (.refl _) (.cons (.refl _) (.cons (AsArg.nil0 (k':=1)) .nil))) (Z26_walk gx5 H))) rfl ?_
 refine S Mv (S EX (S EX ?_));refine Sl ?_;refine Sf ?_;refine S As (nil ?_);refine freezeA 2 _ rfl (KA 1 (KA 3 Keeps.nil)) ?_;refine seqR (S Mv ?_);refine sLen (f:=Z5.c) (s:=x5.2) (TK rfl) rfl rfl rfl rfl fun hL7=>?_;refine S BI (S Mv (G0 Fv ?_));refine G1 27 rfl Ld ?_;refine gC rfl rfl (fun hC=>ungdA (k:=28) rfl (lenM' (f:=TDef.c) (s:=x5.1.FDefs) (TK rfl) rfl rfl rfl)) rfl ?_;refine G1 29 rfl BI ?_
 refine S PA (S Mv (G0 Fv ?_));refine G1 33 rfl Ld ?_;obtain⟨x8,gx8,hE⟩:=gO hE;refine gC rfl rfl (fun hC=>ungdA (k:=34) rfl (idxMn (f:=TDef.c) (n:=0) (TK rfl) rfl (TK rfl) rfl rfl rfl (gx8 hC))) rfl ?_;refine G1 35 rfl Fv ?_;refine G1 36 rfl Ld ?_;refine gC rfl rfl (fun hC=>ungdA (k:=37) rfl (lenM' (f:=Z6.c) (s:=x8.FFields) (TK rfl) rfl rfl rfl)) rfl ?_;refine G1 38 rfl BI ?_;refine S PA (S Mv (G0 Fv ?_))
 refine G1 42 rfl Ld ?_;obtain⟨x9,gx9,hE⟩:=gO hE;refine gC rfl rfl (fun hC=>ungdA (k:=43) rfl (idxMn (f:=TDef.c) (n:=0) (TK rfl) rfl (TK rfl) rfl rfl rfl (gx9 hC))) rfl ?_;refine G1 44 rfl Fv ?_;refine G1 45 rfl Ld ?_;obtain⟨x10,gx10,hE⟩:=gO hE;refine gC rfl rfl (fun hC=>ungdA (k:=46) rfl (idxMn (f:=Z6.c) (n:=0) (TK rfl) rfl (TK rfl) rfl rfl rfl (gx10 hC))) rfl ?_;refine G1 47 rfl Fv ?_;refine G1 48 rfl Ld ?_
 refine G1 49 rfl BS ?_;refine S PA (S Mv (G0 Ld ?_));obtain⟨x11,gx11,hE⟩:=gO hE;refine Gc1 53 rfl rfl rfl rfl rfl (fun hC=>Z27_walk (gx11 hC)) ?_;refine gC rfl rfl (fun hC=>ungdA (k:=54) rfl (field (TK rfl) rfl rfl (TK rfl) rfl rfl rfl)) rfl ?_;refine gC rfl rfl (fun hC=>ungdA (k:=55) rfl (lenM' (f:=TDef.c) (s:=x11.FDefs) (TK rfl) rfl rfl rfl)) rfl ?_;refine G1 56 rfl BI ?_;refine S PA (S As (nil ?_))
 exact rt hE
def Z50_j2  (y3_l0:Z9):Option (Z9×Bool):=some ((Z9.mk (0:Int) (0:Int) ([]:Bs) true ([]) (Sl.nil:Sl Bs)),false)
def Z50_l6 (a0:TDir) (a1:Bs) :Nat->Nat->Z9->Option (Z9×Bool)
 | 0,_,_=>none
 | n6+1,s6_7,y8_l0=>bif (decide (((s6_7:Nat):Int)<((a0.FArgs.l.length:Nat):Int))) then((a0.FArgs.l[s6_7]?).bind fun x15=>bif ((x15.FName==a1)) then((a0.FArgs.l[s6_7]?).bind fun x18=>some (x18.FValue,true)) else((Z50_l6 a0 a1 n6) (s6_7+1) y8_l0)) else(Z50_j2   y8_l0)
def Z50 (a0:TDir) (a1:Bs):Option (Z9×Bool):=Z50_l6 a0 a1 (a0.FArgs.l.length+1) 0 Z9.zero
theorem Z50_walk {a0:TDir}{a1:Bs}{r:Z9×Bool}(hE:Z50 a0 a1=some r) (H:Heap) :AC Tryz.prog 22 [.agg (TDir.c a0),.d (.str a1)] H fun v h'=>v=.tup [.agg (Z9.c r.1),.d (.bool r.2)]/\h'=H:=by
 unfold Z50 at hE;refine AC.oW 29 [.cell 4 48,.tmp 5] Tryz.call22 Tryz.func22 ?_;refine seqR (S BX ?_);refine Sl ?_;refine S As (nil ?_);refine seqJ (TA 4 kN) (fun(z:Z9)=>[]) (fun z=>[Z9.c z]) (fun z=>H) (fun z=>Z50_j2 z=some r) ?_ ?_
 ·intro K2 hK2;refine seqR (S As (nil ?_));refine block ?_;refine loopO (TA 1 (TA 2 (TA 4 kN))) (fun(z:Nat×Nat×Z9)=>[(6,.a (.d (.int .i64 ((z.2.1:Nat):Int))))]) (fun z=>[Z9.c z.2.2]) (fun z=>H) (fun z=>z.1) (fun z=>Z50_l6 a0 a1 z.1 z.2.1 z.2.2=some r) ((a0.FArgs.l.length+1),0,Z9.zero) hE wA ?_;rintro ⟨n6,s6_7,y8_l0⟩ hE K6 hK6;try dsimp only at hE
  cases n6 with
  | zero=>cases hE
  | succ n6 =>
    rw [Z50_l6] at hE;refine seqK fun K9 hK9=>?_;refine seqR (S Mv (S Fv (S Ld ?_)));refine sLen (f:=TArg.c) (s:=a0.FArgs) (TK rfl) rfl rfl rfl rfl fun hL11=>?_;refine S BI (nil ?_);refine cE hE (fun hc12 hE=>?_) (fun hc12 hE=>?_)
    ·try dsimp only at hc12
     have hf12:=oD hc12;refine sk hK9 ?_;clear hK9 K9;refine seqK fun K13 hK13=>?_;refine block ?_;refine seqR (S Fv (S Ld (S Mv ?_)));obtain⟨x15,gx15,hE⟩:=bO hE;refine S (ix TArg.c s6_7 gx15) (S Fv (S Ld (S Mv (S BS (nil ?_)))));refine cE hE (fun hc16 hE=>?_) (fun hc16 hE=>?_)
     ·refine seqR (S Fv (S Ld (S Mv ?_)));obtain⟨x18,gx18,hE⟩:=bO hE;refine S (ix TArg.c s6_7 gx18) (S Fv (S Ld ?_));refine Sf ?_;refine S As (nil ?_);exact rt hE
     refine sk hK13 ?_;clear hK13 K13;refine region ?_;refine S Mv ?_;refine SI ?_;refine S As (nil ?_);exact hK6 _ (n6,(s6_7+1),y8_l0) wA hE (nS _)
    refine AWp.exit ?_;exact hK2 _ y8_l0 wA hE
 rintro y3_l0 hE;try dsimp only at hE
 unfold Z50_j2 at hE;refine seqR (S BU ?_);refine Sf ?_;refine S As (nil ?_);exact rt hE
def Z49_j3  (s7_4:(Sl Z9)):Option (Sl Z9):=some s7_4
def Z49_j14 (s8_9:Nat) (k_next_7:(Sl Z9)->Nat->Option (Sl Z9)) (s7_15:(Sl Z9)):Option (Sl Z9):=k_next_7 s7_15 (s8_9+1)
def Z49_l7 (a0:(Sl TDir)) (a1:Bs) (a2:Bs) :Nat->(Sl Z9)->Nat->Option (Sl Z9)
 | 0,_,_=>none
 | n7+1,s7_8,s8_9=>bif (decide (((s8_9:Nat):Int)<((a0.l.length:Nat):Int))) then((a0.l[s8_9]?).bind fun x17=>(Z50 x17 a2).bind fun x18=>(a0.l[s8_9]?).bind fun x20=>bif (((x20.FName==a1))&&x18.2) then((appC 80 s7_8 (⟨false,[x18.1]⟩:Sl Z9)).bind fun x22=>Z49_j14 s8_9 ((Z49_l7 a0 a1 a2 n7)) x22) else(Z49_j14 s8_9 ((Z49_l7 a0 a1 a2 n7)) s7_8)) else(Z49_j3   s7_8)
def Z49 (a0:(Sl TDir)) (a1:Bs) (a2:Bs):Option (Sl Z9):=Z49_l7 a0 a1 a2 (a0.l.length+1) (Sl.nil:Sl Z9) 0
theorem Z49_walk {a0:Sl TDir}{a1 a2:Bs}{w0:Option Nat}{r:Sl Z9}(hE:Z49 a0 a1 a2=some r) (H:Heap) :AC Tryz.prog 12 [.d (Sl.d 2 TDir.c w0 a0),.d (.str a1),.d (.str a2)] H fun v h'=>v=.a (.d (Sl.d 5 Z9.c none r))/\h'=H:=by
 unfold Z49 at hE;refine AC.oW 41 [.tmp 6] Tryz.call12 Tryz.func12 ?_;refine AWp.tok 5 fun tk1 htk1=>?_;refine seqR ?_;refine s0 (assignNil (k':=5) rfl) rfl ?_;refine nil ?_;refine seqR (S As (nil ?_));refine AWp.nilTok 7 5 tk1 rfl hpG ?_;refine seqJH kN (fun(z:(Sl Z9))=>[(7,.a (.d (Sl.d 5 Z9.c (some tk1) z)))]) (fun z=>(H.set tk1 (some (.tok 5 z.l.length)))) (fun z=>Z49_j3 z=some r) ?_ ?_
 ·intro K3 hK3;refine seqR (S As (nil ?_));refine block ?_;refine loopH (TA 0 (TA 1 (TA 2 kN))) (fun(z:Nat×(Sl Z9)×Nat)=>[(7,.a (.d (Sl.d 5 Z9.c (some tk1) z.2.1))),(8,.a (.d (.int .i64 ((z.2.2:Nat):Int))))]) (fun z=>(H.set tk1 (some (.tok 5 z.2.1.l.length)))) (fun z=>z.1) (fun z=>Z49_l7 a0 a1 a2 z.1 z.2.1 z.2.2=some r) ((a0.l.length+1),(Sl.nil:Sl Z9),0) hE wA ?_;rintro ⟨n7,s7_8,s8_9⟩ hE K7 hK7
  try dsimp only at hE
  cases n7 with
  | zero=>cases hE
  | succ n7 =>
    rw [Z49_l7] at hE;refine seqK fun K10 hK10=>?_;refine seqR (S Mv (S Mv ?_));refine sLen (f:=TDir.c) (s:=a0) (TK rfl) rfl rfl rfl rfl fun hL12=>?_;refine S BI (nil ?_);refine cE hE (fun hc13 hE=>?_) (fun hc13 hE=>?_)
    ·try dsimp only at hc13
     have hf13:=oD hc13;refine sk hK10 ?_;clear hK10 K10;refine seqJH (TA 0 (TA 1 (TA 2 (TA 8 kN)))) (fun(z:(Sl Z9))=>[(7,.a (.d (Sl.d 5 Z9.c (some tk1) z)))]) (fun z=>(H.set tk1 (some (.tok 5 z.l.length)))) (fun z=>Z49_j14 s8_9 ((Z49_l7 a0 a1 a2 n7)) z=some r) ?_ ?_
     ·intro K14 hK14;refine block ?_;refine seqR (S Mv (S Mv ?_));obtain⟨x17,gx17,hE⟩:=bO hE;refine S (ix TDir.c s8_9 gx17) (S Ld (S Mv ?_));obtain⟨x18,gx18,hE⟩:=bO hE;refine Sc rfl rfl (Z50_walk gx18) ?_;refine S Mv (S EX (S EX ?_));refine Sl ?_;refine Sf ?_;refine S As (nil ?_);refine freezeA 9 _ rfl (KA 0 (KA 1 (KA 2 (KA 7 (KA 8 (KA 10 Keeps.nil)))))) ?_;refine seqR (S Mv (S Mv ?_));obtain⟨x20,gx20,hE⟩:=bO hE
      refine S (ix TDir.c s8_9 gx20) (S Fv (S Ld (S Mv (S BS (S Mv (G0 Mv (S PA (nil ?_))))))));refine cE hE (fun hc21 hE=>?_) (fun hc21 hE=>?_)
      ·refine region ?_;refine S Mv (S Ld (S BV ?_));obtain⟨x22,gx22,hE⟩:=bO hE;refine SH (am Z9.c (TK rfl) rfl (TK rfl) (TK rfl) gx22) ?_;refine hq (H.set tk1 (some (.tok 5 x22.l.length))) ?_;refine S As (nil ?_);exact hK14 _ x22 wA hE
      refine AWp.skip ?_;exact hK14 _ s7_8 wA hE
     rintro s7_15 hE;try dsimp only at hE
     unfold Z49_j14 at hE;refine region ?_;refine S Mv ?_;refine SI ?_;refine S As (nil ?_);exact hK7 _ (n7,s7_15,(s8_9+1)) wA hE (nS _)
    refine AWp.exit ?_;exact hK3 _ s7_8 wA hE
 rintro s7_4 hE;try dsimp only at hE
 unfold Z49_j3 at hE;refine seqR (S Mv (S As (nil ?_)));refine AWp.dropTok 6 rfl ?_;refine AWp.ret ?_;repeat (first|refine xBlock_ret ?_|refine xThen_ret ?_)
 obtain rfl:=oJ hE;refine retQ.retF H rfl ⟨rfl,rfl⟩ ?_
 first|exact Heap.sub_set htk1|(simp only [Heap.set_set]; exact Heap.sub_set htk1)
def Z52_j2  :Option Bool:=some false
def Z52_l5 (a0:(Sl Bs)) (a1:Bs) :Nat->Nat->Option Bool
 | 0,_=>none
 | n5+1,s5_6=>bif (decide (((s5_6:Nat):Int)<((a0.l.length:Nat):Int))) then((a0.l[s5_6]?).bind fun x13=>bif ((x13==a1)) then(some true) else((Z52_l5 a0 a1 n5) (s5_6+1))) else(Z52_j2   )
def Z52 (a0:(Sl Bs)) (a1:Bs):Option Bool:=Z52_l5 a0 a1 (a0.l.length+1) 0
theorem Z52_walk {a0:Sl Bs}{a1:Bs}{w0:Option Nat}{r:Bool}(hE:Z52 a0 a1=some r) (H:Heap) :AC Tryz.prog 13 [.d (Sl.d 1 strE w0 a0),.d (.str a1)] H fun v h'=>v=.a (.d (.bool r))/\h'=H:=by
 unfold Z52 at hE;refine AC.oW 18 [.tmp 4] Tryz.call13 Tryz.func13 ?_;refine seqR (S As (nil ?_));refine seqJH kN (fun(z:Unit)=>[]) (fun z=>H) (fun z=>Z52_j2 =some r) ?_ ?_
 ·intro K2 hK2;refine seqR (S As (nil ?_));refine block ?_;refine loopH (TA 0 (TA 1 kN)) (fun(z:Nat×Nat)=>[(5,.a (.d (.int .i64 ((z.2:Nat):Int))))]) (fun z=>H) (fun z=>z.1) (fun z=>Z52_l5 a0 a1 z.1 z.2=some r) ((a0.l.length+1),0) hE wA ?_;rintro ⟨n5,s5_6⟩ hE K5 hK5;try dsimp only at hE
  cases n5 with
  | zero=>cases hE
  | succ n5 =>
    rw [Z52_l5] at hE;refine seqK fun K7 hK7=>?_;refine seqR (S Mv (S Mv ?_));refine sLen (f:=strE) (s:=a0) (TK rfl) rfl rfl rfl rfl fun hL9=>?_;refine S BI (nil ?_);refine cE hE (fun hc10 hE=>?_) (fun hc10 hE=>?_)
    ·try dsimp only at hc10
     have hf10:=oD hc10;refine sk hK7 ?_;clear hK7 K7;refine seqK fun K11 hK11=>?_;refine block ?_;refine seqR (S Mv (S Mv ?_));obtain⟨x13,gx13,hE⟩:=bO hE;refine S (ix strE s5_6 gx13) (S Ld (S Mv (S BS (nil ?_))));refine cE hE (fun hc14 hE=>?_) (fun hc14 hE=>?_)
     ·refine seqR (S As (nil ?_));exact rt hE
     refine sk hK11 ?_;clear hK11 K11;refine region ?_;refine S Mv ?_;refine SI ?_;refine S As (nil ?_);exact hK5 _ (n5,(s5_6+1)) wA hE (nS _)
    refine AWp.exit ?_;exact hK2 _ () wA hE
 rintro _ hE;try dsimp only at hE
 unfold Z52_j2 at hE;refine seqR (S As (nil ?_));exact rt hE
def Z51_j5  (s4_6:(Sl Bs)):Option (Sl Bs):=some s4_6
def Z51_j16 (s5_11:Nat) (k_next_9:(Sl Bs)->Nat->Option (Sl Bs)) (s4_17:(Sl Bs)):Option (Sl Bs):=k_next_9 s4_17 (s5_11+1)
def Z51_l9 (x3:(Sl Z9)) :Nat->(Sl Bs)->Nat->Option (Sl Bs)
 | 0,_,_=>none
 | n9+1,s4_10,s5_11=>bif (decide (((s5_11:Nat):Int)<((x3.l.length:Nat):Int))) then((x3.l[s5_11]?).bind fun x19=>guardO ((decide (x19.FKind=(3:Int)))) (x3.l[s5_11]?) Z9.zero fun x20=>guardO ((decide (x19.FKind=(3:Int)))) (Z52 s4_10 x20.FText) false fun x21=>bif ((decide (x19.FKind=(3:Int)))&&(!x21)) then((x3.l[s5_11]?).bind fun x23=>(appC 16 s4_10 (⟨false,[x23.FText]⟩:Sl Bs)).bind fun x24=>Z51_j16 s5_11 ((Z51_l9 x3 n9)) x24) else(Z51_j16 s5_11 ((Z51_l9 x3 n9)) s4_10)) else(Z51_j5   s4_10)
def Z51 (a0:(Sl TDir)):Option (Sl Bs):=(Z49 a0 ([116,97,103]:Bs) ([110,97,109,101]:Bs)).bind fun x3=>Z51_l9 x3 (x3.l.length+1) (Sl.nil:Sl Bs) 0
theorem Z51_walk {a0:Sl TDir}{w0:Option Nat}{r:Sl Bs}(hE:Z51 a0=some r) (H:Heap) :AC Tryz.prog 6 [.d (Sl.d 2 TDir.c w0 a0)] H fun v h'=>v=.a (.d (Sl.d 1 strE none r))/\h'=H:=by
 unfold Z51 at hE;refine AC.oW 39 [.tmp 2] Tryz.call6 Tryz.func6 ?_;refine AWp.tok 1 fun tk1 htk1=>?_;refine seqR ?_;refine s0 (assignNil (k':=1) rfl) rfl ?_;refine nil ?_;refine seqR (S Mv ?_);obtain⟨x3,gx3,hE⟩:=bO hE;refine Sc rfl rfl (Z49_walk gx3) ?_;refine S As (nil ?_);refine seqR (S As (nil ?_));refine AWp.nilTok 4 1 tk1 rfl hpG ?_;refine seqJH kN (fun(z:(Sl Bs))=>[(4,.a (.d (Sl.d 1 strE (some tk1) z)))]) (fun z=>(H.set tk1 (some (.tok 1 z.l.length)))) (fun z=>Z51_j5 z=some r) ?_ ?_
 ·intro K5 hK5;refine seqR (S As (nil ?_));refine block ?_;refine loopH (TA 3 kN) (fun(z:Nat×(Sl Bs)×Nat)=>[(4,.a (.d (Sl.d 1 strE (some tk1) z.2.1))),(5,.a (.d (.int .i64 ((z.2.2:Nat):Int))))]) (fun z=>(H.set tk1 (some (.tok 1 z.2.1.l.length)))) (fun z=>z.1) (fun z=>Z51_l9 x3 z.1 z.2.1 z.2.2=some r) ((x3.l.length+1),(Sl.nil:Sl Bs),0) hE wA ?_;rintro ⟨n9,s4_10,s5_11⟩ hE K9 hK9;try dsimp only at hE
  cases n9 with
  | zero=>cases hE
  | succ n9 =>
    rw [Z51_l9] at hE;refine seqK fun K12 hK12=>?_;refine seqR (S Mv (S Mv ?_));refine sLen (f:=Z9.c) (s:=x3) (TK rfl) rfl rfl rfl rfl fun hL14=>?_;refine S BI (nil ?_);refine cE hE (fun hc15 hE=>?_) (fun hc15 hE=>?_)
    ·try dsimp only at hc15
     have hf15:=oD hc15;refine sk hK12 ?_;clear hK12 K12;refine seqJH (TA 3 (TA 5 kN)) (fun(z:(Sl Bs))=>[(4,.a (.d (Sl.d 1 strE (some tk1) z)))]) (fun z=>(H.set tk1 (some (.tok 1 z.l.length)))) (fun z=>Z51_j16 s5_11 ((Z51_l9 x3 n9)) z=some r) ?_ ?_
     ·intro K16 hK16;refine block ?_;refine seqR (S Mv (S Mv ?_));obtain⟨x19,gx19,hE⟩:=bO hE;refine S (ix Z9.c s5_11 gx19) (S Fv (S Ld (S BI (S Mv (G0 Mv (G0 Mv (G0 Mv ?_)))))));obtain⟨x20,gx20,hE⟩:=gO hE;refine gC rfl rfl (fun hC=>ungdA (k:=22) rfl (ungdA (k:=23) rfl (idxMn (f:=Z9.c) (n:=s5_11) (TK rfl) rfl (TK rfl) rfl rfl rfl (gx20 hC)))) rfl ?_;refine G1 24 rfl Fv ?_;refine G1 25 rfl Ld ?_;obtain⟨x21,gx21,hE⟩:=gO hE
      refine Gc2 21 26 rfl rfl rfl rfl rfl rfl (fun hC=>Z52_walk (gx21 hC)) ?_;refine G1 27 rfl NB ?_;refine S PA (nil ?_);refine cE hE (fun hc22 hE=>?_) (fun hc22 hE=>?_)
      ·refine region ?_;refine S Mv (S Mv (S Mv ?_));obtain⟨x23,gx23,hE⟩:=bO hE;refine S (ix Z9.c s5_11 gx23) (S Fv (S Ld (S BV ?_)));obtain⟨x24,gx24,hE⟩:=bO hE;refine SH (am strE (TK rfl) rfl (TK rfl) (TK rfl) gx24) ?_;refine hq (H.set tk1 (some (.tok 1 x24.l.length))) ?_;refine S As (nil ?_);exact hK16 _ x24 wA hE
      refine AWp.skip ?_;exact hK16 _ s4_10 wA hE
     rintro s4_17 hE;try dsimp only at hE
     unfold Z51_j16 at hE;refine region ?_;refine S Mv ?_;refine SI ?_;refine S As (nil ?_);exact hK9 _ (n9,s4_17,(s5_11+1)) wA hE (nS _)
    refine AWp.exit ?_;exact hK5 _ s4_10 wA hE
 rintro s4_6 hE;try dsimp only at hE
 unfold Z51_j5 at hE;refine seqR (S Mv (S As (nil ?_)));refine AWp.dropTok 2 rfl ?_;refine AWp.ret ?_;repeat (first|refine xBlock_ret ?_|refine xThen_ret ?_)
 obtain rfl:=oJ hE;refine retQ.retF H rfl ⟨rfl,rfl⟩ ?_
 first|exact Heap.sub_set htk1|(simp only [Heap.set_set]; exact Heap.sub_set htk1)
def Z46_j17  :Option Bool:=(Z47 ).bind fun x19=>some x19
def Z46_l21 (x9:(Sl Bs)) (x10:(Sl Bs)) :Nat->Nat->Option Bool
 | 0,_=>none
 | n21+1,s5_22=>bif (decide (((s5_22:Nat):Int)<((x9.l.length:Nat):Int))) then((x9.l[s5_22]?).bind fun x29=>(x10.l[s5_22]?).bind fun x30=>bif (!(x29==x30)) then(some false) else((Z46_l21 x9 x10 n21) (s5_22+1))) else(Z46_j17   )
def Z46 (a0:(Sl TDir)):Option Bool:=bif (decide ((60:Int)<((a0.l.length:Nat):Int))) then((Z47 ).bind fun x7=>some x7) else((Z29 a0).bind fun x9=>(Z51 a0).bind fun x10=>bif (!decide (((x9.l.length:Nat):Int)=((x10.l.length:Nat):Int))) then(some false) else(Z46_l21 x9 x10 (x9.l.length+1) 0))
theorem Z46_walk {a0:Sl TDir}{w0:Option Nat}{r:Bool}(hE:Z46 a0=some r) (H:Heap) :AC Tryz.prog 3 [.d (Sl.d 2 TDir.c w0 a0)] H fun v h'=>v=.a (.d (.bool r))/\h'=H:=by
 unfold Z46 at hE;refine AC.oW 35 [.tmp 2] Tryz.call3 Tryz.func3 ?_;refine seqR (S As (nil ?_));refine seqK fun K2 hK2=>?_;refine seqR (S Mv ?_);refine sLen (f:=TDir.c) (s:=a0) (TK rfl) rfl rfl rfl rfl fun hL4=>?_;refine S BI (nil ?_);refine cE hE (fun hc5 hE=>?_) (fun hc5 hE=>?_)
 ·refine seqR ?_;obtain⟨x7,gx7,hE⟩:=bO hE;refine Sc rfl rfl (Z47_walk gx7) ?_;refine S As (nil ?_);exact rt hE
 refine sk hK2 ?_;clear hK2 K2;refine seqR (S Mv ?_);obtain⟨x9,gx9,hE⟩:=bO hE;refine Sc rfl rfl (Z29_walk gx9) ?_;refine S Mv ?_;obtain⟨x10,gx10,hE⟩:=bO hE;refine Sc rfl rfl (Z51_walk gx10) ?_;refine S As (S As (nil ?_));refine seqK fun K11 hK11=>?_;refine seqR (S Mv ?_);refine sLen (f:=strE) (s:=x9) (TK rfl) rfl rfl rfl rfl fun hL13=>?_;refine S Mv ?_;refine sLen (f:=strE) (s:=x10) (TK rfl) rfl rfl rfl rfl fun hL14=>?_
 refine S BI (nil ?_);refine cE hE (fun hc15 hE=>?_) (fun hc15 hE=>?_)
 ·refine seqR (S As (nil ?_));exact rt hE
 refine sk hK11 ?_;clear hK11 K11;refine seqJH kN (fun(z:Unit)=>[]) (fun z=>H) (fun z=>Z46_j17 =some r) ?_ ?_
 ·intro K17 hK17;refine seqR (S As (nil ?_));refine block ?_;refine loopH (TA 3 (TA 4 kN)) (fun(z:Nat×Nat)=>[(5,.a (.d (.int .i64 ((z.2:Nat):Int))))]) (fun z=>H) (fun z=>z.1) (fun z=>Z46_l21 x9 x10 z.1 z.2=some r) ((x9.l.length+1),0) hE wA ?_;rintro ⟨n21,s5_22⟩ hE K21 hK21;try dsimp only at hE
  cases n21 with
  | zero=>cases hE
  | succ n21 =>
    rw [Z46_l21] at hE;refine seqK fun K23 hK23=>?_;refine seqR (S Mv (S Mv ?_));refine sLen (f:=strE) (s:=x9) (TK rfl) rfl rfl rfl rfl fun hL25=>?_;refine S BI (nil ?_);refine cE hE (fun hc26 hE=>?_) (fun hc26 hE=>?_)
    ·try dsimp only at hc26
     have hf26:=oD hc26;refine sk hK23 ?_;clear hK23 K23;refine seqK fun K27 hK27=>?_;refine block ?_;refine AWp.seqD (Sd Mv (Sd Mv ?_));obtain⟨x29,gx29,hE⟩:=bO hE;refine Sd (ix strE s5_22 gx29) (Sd Ld (Sd Mv (Sd Mv ?_)));obtain⟨x30,gx30,hE⟩:=bO hE;refine Sd (ix strE s5_22 gx30) (Sd Ld (Sd BS ?_));refine DOps.nil (by decide +kernel) ?_;refine cE hE (fun hc31 hE=>?_) (fun hc31 hE=>?_)
     ·refine seqR (S As (nil ?_));exact rt hE
     refine sk hK27 ?_;clear hK27 K27;refine region ?_;refine S Mv ?_;refine SI ?_;refine S As (nil ?_);exact hK21 _ (n21,(s5_22+1)) wA hE (nS _)
    refine AWp.exit ?_;exact hK17 _ () wA hE
 rintro _ hE;try dsimp only at hE
 unfold Z46_j17 at hE;refine seqR ?_;obtain⟨x19,gx19,hE⟩:=bO hE;refine Sc rfl rfl (Z47_walk gx19) ?_;refine S As (nil ?_);exact rt hE
end Go.Proofs

namespace Go.Proofs
open Go Go.Ab
def Z44_q7 (a1:Bs):List TArg->Unit ⊕ ((Z9×Bool))
 | []=>Sum.inl ()
 | h7::r7=>on (h7) fun x15=>bif ((x15.FName==a1)) then(Sum.inr (x15.FValue,true)) else(Z44_q7 a1 (r7) )
theorem Z44_l7_qe {a0:TDir}{a1:Bs}  (Kb7:(Unit ⊕ ((Z9×Bool)))->Option (Z9×Bool)) (hend:∀(n7:Nat) (s11_8:Nat) (y9_l0:Z9),Z44_j2   y9_l0=Kb7 (Sum.inl ())) (hret:∀e:(Z9×Bool),some e=Kb7 (Sum.inr e)):∀(n7:Nat) (s11_8:Nat) (y9_l0:Z9),(0<n7/\a0.FArgs.l.length<s11_8+n7)->Z44_l7 a0 a1 n7 s11_8 y9_l0=Kb7 (Z44_q7 a1 (a0.FArgs.l.drop s11_8) ):=by
 intro n7;induction n7 with
 | zero=>intro s11_8 y9_l0 hn; exact absurd hn.1 (by omega)
 | succ n7 ih7 =>
  intro s11_8 y9_l0 hn;rw [Z44_l7];by_cases hlt:s11_8<a0.FArgs.l.length
  ·obtain⟨h7,hh7⟩:=Qa hlt;rw [Q.drop_of hh7,Z44_q7];refine QT hlt ?_;refine Q.bindP hh7 fun x15 hx_x15=>?_;refine Q.condP ?_ ?_
   ·all_goals exact hret _
   all_goals exact ih7 _ _ ⟨by omega,by omega⟩
  rw [dL (by omega),Z44_q7];refine QF hlt ?_;exact hend n7 s11_8 y9_l0
def Z44_q (a0:TDir) (a1:Bs):(Z9×Bool):=on (Z44_q7 a1 a0.FArgs.l ) fun o7=>match o7 with|Sum.inl _=>(on (()) fun _=>((Z9.mk (0:Int) (0:Int) ([]:Bs) true ([]) (Sl.nil:Sl Bs)),false))|Sum.inr e7=>(e7)
theorem Z44_eq (a0:TDir) (a1:Bs):Z44 a0 a1=some (Z44_q a0 a1):=by
 unfold Z44 Z44_q;refine Q.wrapPP fun Kb7 hKb7=>?_;refine Z44_l7_qe  Kb7 ?_ ?_ _ _ _ ⟨Nat.succ_pos _,by omega⟩
 ·intro n7 s11_8 y9_l0;refine Qe (hKb7 _) ?_;try dsimp only
  refine Q.wrapPP fun Kj2 hKj2=>?_;have hj2:∀(y3_l0:Z9),Z44_j2  y3_l0=Kj2 ():=by
   intro y3_l0;refine Qe (hKj2 _) ?_;unfold Z44_j2;all_goals rfl
  all_goals exact hj2 _
 intro e7;refine Qe (hKb7 _) ?_;try dsimp only
 all_goals rfl
def Z43_q8 (a1:Bs) (a2:Bs):List TDir->(Sl Z9)->Option ((Sl Z9))
 | [],s7_9=>some s7_9
 | h8::r8,s7_9=>on (h8) fun x17=>on (Z44_q x17 a2) fun x19=>Option.bind (bif (x19.2&&((x17.FName==a1))) then((appC 80 s7_9 (⟨false,[x19.1]⟩:Sl Z9)).bind fun x22=>some x22) else(some s7_9)) fun s7_15=>Z43_q8 a1 a2 (r8) s7_15
theorem Z43_l8_qe {a0:(Sl TDir)}{a1:Bs}{a2:Bs}  (Kb8:((Sl Z9))->Option (Sl Z9)) (hend:∀(n8:Nat) (s7_9:(Sl Z9)) (s14_10:Nat),Z43_j3   s7_9=Kb8 s7_9):∀(n8:Nat) (s7_9:(Sl Z9)) (s14_10:Nat),(0<n8/\a0.l.length<s14_10+n8)->Z43_l8 a0 a1 a2 n8 s7_9 s14_10=Option.bind (Z43_q8 a1 a2 (a0.l.drop s14_10) s7_9) Kb8:=by
 intro n8;induction n8 with
 | zero=>intro s7_9 s14_10 hn; exact absurd hn.1 (by omega)
 | succ n8 ih8 =>
  intro s7_9 s14_10 hn;rw [Z43_l8];by_cases hlt:s14_10<a0.l.length
  ·obtain⟨h8,hh8⟩:=Qa hlt;rw [Q.drop_of hh8,Z43_q8];refine QT hlt ?_;refine Q.bindPO hh8 fun x17 hx_x17=>?_;refine Q.bindPO (Z44_eq _ _) fun x19 hx_x19=>?_;refine Q.wrapOO fun Kj14 hKj14=>?_;have hj14:∀(s7_15:(Sl Z9)),Z43_j14 s14_10 (Z43_l8 a0 a1 a2 n8) s7_15=Kj14 s7_15:=by
    intro s7_15;refine Qe (hKj14 _) ?_;unfold Z43_j14;all_goals exact ih8 _ _ ⟨by omega,by omega⟩
   refine Q.condO ?_ ?_
   ·refine Q.bindO rfl fun x22=>?_;all_goals exact hj14 _
   all_goals exact hj14 _
  rw [dL (by omega),Z43_q8];refine QF hlt ?_;exact hend n8 s7_9 s14_10
def Z43_q (a0:(Sl TDir)) (a1:Bs) (a2:Bs):Option (Sl Z9):=Option.bind (Z43_q8 a1 a2 a0.l (Sl.nil:Sl Z9)) fun s7_9=>on (s7_9) fun s7_4=>some s7_4
theorem Z43_eq (a0:(Sl TDir)) (a1:Bs) (a2:Bs):Z43 a0 a1 a2=Z43_q a0 a1 a2:=by
 unfold Z43 Z43_q;refine Qs ?_;refine Q.wrapOO fun Kb8 hKb8=>?_;refine Z43_l8_qe  Kb8 ?_ _ _ _ ⟨Nat.succ_pos _,by omega⟩;intro n8 s7_9 s14_10;refine Qe (hKb8 _) ?_;refine Q.wrapPO fun Kj3 hKj3=>?_;have hj3:∀(s7_4:(Sl Z9)),Z43_j3  s7_4=Kj3 s7_4:=by
  intro s7_4;refine Qe (hKj3 _) ?_;unfold Z43_j3;all_goals rfl
 all_goals exact hj3 _
def Z81_q6 (a1:Bs):List Bs->Nat->Unit ⊕ Int
 | [],s8_7=>Sum.inl ()
 | h6::r6,s8_7=>on (h6) fun x14=>bif ((a1==x14)) then(Sum.inr ((s8_7:Nat):Int)) else(Z81_q6 a1 (r6) (s8_7+1) )
theorem Z81_l6_qe {a0:(Sl Bs)}{a1:Bs}  (Kb6:(Unit ⊕ Int)->Option Int) (hend:∀(n6:Nat) (s8_7:Nat),Z81_j2   =Kb6 (Sum.inl ())) (hret:∀e:Int,some e=Kb6 (Sum.inr e)):∀(n6:Nat) (s8_7:Nat),(0<n6/\a0.l.length<s8_7+n6)->Z81_l6 a0 a1 n6 s8_7=Kb6 (Z81_q6 a1 (a0.l.drop s8_7) s8_7 ):=by
 intro n6;induction n6 with
 | zero=>intro s8_7 hn; exact absurd hn.1 (by omega)
 | succ n6 ih6 =>
  intro s8_7 hn;rw [Z81_l6];by_cases hlt:s8_7<a0.l.length
  ·obtain⟨h6,hh6⟩:=Qa hlt;rw [Q.drop_of hh6,Z81_q6];refine QT hlt ?_;refine Q.bindP hh6 fun x14 hx_x14=>?_;refine Q.condP ?_ ?_
   ·all_goals exact hret _
   all_goals exact ih6 _ ⟨by omega,by omega⟩
  rw [dL (by omega),Z81_q6];refine QF hlt ?_;exact hend n6 s8_7
def Z81_q (a0:(Sl Bs)) (a1:Bs):Int:=on (Z81_q6 a1 a0.l 0 ) fun o6=>match o6 with|Sum.inl _=>(on (()) fun _=>(-1:Int))|Sum.inr e6=>(e6)
theorem Z81_eq (a0:(Sl Bs)) (a1:Bs):Z81 a0 a1=some (Z81_q a0 a1):=by
 unfold Z81 Z81_q;refine Q.wrapPP fun Kb6 hKb6=>?_;refine Z81_l6_qe  Kb6 ?_ ?_ _ _ ⟨Nat.succ_pos _,by omega⟩
 ·intro n6 s8_7;refine Qe (hKb6 _) ?_;try dsimp only
  refine Q.wrapPP fun Kj2 hKj2=>?_;have hj2:Z81_j2  =Kj2 ():=by
   refine Qe (hKj2 _) ?_;unfold Z81_j2;all_goals rfl
  all_goals exact hj2
 intro e6;refine Qe (hKb6 _) ?_;try dsimp only
 all_goals rfl
def Z74_q (a0:(Sl Bs)) (a1:Bs):Bool:=on (Z81_q a0 a1) fun x3=>(decide ((0:Int)<=x3))
theorem Z74_eq (a0:(Sl Bs)) (a1:Bs):Z74 a0 a1=some (Z74_q a0 a1):=by
 unfold Z74 Z74_q;refine Q.bindP (Z81_eq _ _) fun x3 hx_x3=>?_;all_goals rfl
def Z29_q9 :List Z9->(Sl Bs)->Option ((Sl Bs))
 | [],s3_10=>some s3_10
 | h9::r9,s3_10=>on (h9) fun x18=>on (bif (decide (x18.FKind=(3:Int))) then Z74_q s3_10 x18.FText else false) fun x20=>Option.bind (bif ((decide (x18.FKind=(3:Int)))&&(!x20)) then((appC 16 s3_10 (⟨false,[x18.FText]⟩:Sl Bs)).bind fun x22=>some x22) else(some s3_10)) fun s3_16=>Z29_q9  (r9) s3_16
theorem Z29_l9_qe {x7:(Sl Z9)}  (Kb9:((Sl Bs))->Option (Sl Bs)) (hend:∀(n9:Nat) (s3_10:(Sl Bs)) (s9_11:Nat),Z29_j3   s3_10=Kb9 s3_10):∀(n9:Nat) (s3_10:(Sl Bs)) (s9_11:Nat),(0<n9/\x7.l.length<s9_11+n9)->Z29_l9 x7 n9 s3_10 s9_11=Option.bind (Z29_q9  (x7.l.drop s9_11) s3_10) Kb9:=by
 intro n9;induction n9 with
 | zero=>intro s3_10 s9_11 hn; exact absurd hn.1 (by omega)
 | succ n9 ih9 =>
  intro s3_10 s9_11 hn;rw [Z29_l9];by_cases hlt:s9_11<x7.l.length
  ·obtain⟨h9,hh9⟩:=Qa hlt;rw [Q.drop_of hh9,Z29_q9];refine QT hlt ?_;refine Q.bindPO hh9 fun x18 hx_x18=>?_;refine Q.guardPO (Z74_eq _ _) fun x20 hx_x20=>?_;refine Q.wrapOO fun Kj15 hKj15=>?_;have hj15:∀(s3_16:(Sl Bs)),Z29_j15 s9_11 (Z29_l9 x7 n9) s3_16=Kj15 s3_16:=by
    intro s3_16;refine Qe (hKj15 _) ?_;unfold Z29_j15;all_goals exact ih9 _ _ ⟨by omega,by omega⟩
   refine Q.condO ?_ ?_
   ·refine Q.bindO rfl fun x22=>?_;all_goals exact hj15 _
   all_goals exact hj15 _
  rw [dL (by omega),Z29_q9];refine QF hlt ?_;exact hend n9 s3_10 s9_11
def Z29_q (a0:(Sl TDir)):Option (Sl Bs):=(Z43_q a0 ([116,97,103]:Bs) ([110,97,109,101]:Bs)).bind fun x7=>Option.bind (Z29_q9  x7.l (Sl.nil:Sl Bs)) fun s3_10=>on (s3_10) fun s3_4=>some s3_4
theorem Z29_eq (a0:(Sl TDir)):Z29 a0=Z29_q a0:=by
 unfold Z29 Z29_q;refine Qs ?_;refine Q.bindO (Z43_eq _ _ _) fun x7=>?_;refine Q.wrapOO fun Kb9 hKb9=>?_;refine Z29_l9_qe  Kb9 ?_ _ _ _ ⟨Nat.succ_pos _,by omega⟩;intro n9 s3_10 s9_11;refine Qe (hKb9 _) ?_;refine Q.wrapPO fun Kj3 hKj3=>?_;have hj3:∀(s3_4:(Sl Bs)),Z29_j3  s3_4=Kj3 s3_4:=by
  intro s3_4;refine Qe (hKj3 _) ?_;unfold Z29_j3;all_goals rfl
 all_goals exact hj3 _
def Z50_q6 (a1:Bs):List TArg->Unit ⊕ ((Z9×Bool))
 | []=>Sum.inl ()
 | h6::r6=>on (h6) fun x15=>bif ((x15.FName==a1)) then(on (h6) fun x18=>Sum.inr (x18.FValue,true)) else(Z50_q6 a1 (r6) )
theorem Z50_l6_qe {a0:TDir}{a1:Bs}  (Kb6:(Unit ⊕ ((Z9×Bool)))->Option (Z9×Bool)) (hend:∀(n6:Nat) (s6_7:Nat) (y8_l0:Z9),Z50_j2   y8_l0=Kb6 (Sum.inl ())) (hret:∀e:(Z9×Bool),some e=Kb6 (Sum.inr e)):∀(n6:Nat) (s6_7:Nat) (y8_l0:Z9),(0<n6/\a0.FArgs.l.length<s6_7+n6)->Z50_l6 a0 a1 n6 s6_7 y8_l0=Kb6 (Z50_q6 a1 (a0.FArgs.l.drop s6_7) ):=by
 intro n6;induction n6 with
 | zero=>intro s6_7 y8_l0 hn; exact absurd hn.1 (by omega)
 | succ n6 ih6 =>
  intro s6_7 y8_l0 hn;rw [Z50_l6];by_cases hlt:s6_7<a0.FArgs.l.length
  ·obtain⟨h6,hh6⟩:=Qa hlt;rw [Q.drop_of hh6,Z50_q6];refine QT hlt ?_;refine Q.bindP hh6 fun x15 hx_x15=>?_;refine Q.condP ?_ ?_
   ·refine Q.bindP hh6 fun x18 hx_x18=>?_;all_goals exact hret _
   all_goals exact ih6 _ _ ⟨by omega,by omega⟩
  rw [dL (by omega),Z50_q6];refine QF hlt ?_;exact hend n6 s6_7 y8_l0
def Z50_q (a0:TDir) (a1:Bs):(Z9×Bool):=on (Z50_q6 a1 a0.FArgs.l ) fun o6=>match o6 with|Sum.inl _=>(on (()) fun _=>((Z9.mk (0:Int) (0:Int) ([]:Bs) true ([]) (Sl.nil:Sl Bs)),false))|Sum.inr e6=>(e6)
theorem Z50_eq (a0:TDir) (a1:Bs):Z50 a0 a1=some (Z50_q a0 a1):=by
 unfold Z50 Z50_q;refine Q.wrapPP fun Kb6 hKb6=>?_;refine Z50_l6_qe  Kb6 ?_ ?_ _ _ _ ⟨Nat.succ_pos _,by omega⟩
 ·intro n6 s6_7 y8_l0;refine Qe (hKb6 _) ?_;try dsimp only
  refine Q.wrapPP fun Kj2 hKj2=>?_;have hj2:∀(y3_l0:Z9),Z50_j2  y3_l0=Kj2 ():=by
   intro y3_l0;refine Qe (hKj2 _) ?_;unfold Z50_j2;all_goals rfl
  all_goals exact hj2 _
 intro e6;refine Qe (hKb6 _) ?_;try dsimp only
 all_goals rfl
def Z49_q7 (a1:Bs) (a2:Bs):List TDir->(Sl Z9)->Option ((Sl Z9))
 | [],s7_8=>some s7_8
 | h7::r7,s7_8=>on (h7) fun x17=>on (Z50_q x17 a2) fun x18=>on (h7) fun x20=>Option.bind (bif (((x20.FName==a1))&&x18.2) then((appC 80 s7_8 (⟨false,[x18.1]⟩:Sl Z9)).bind fun x22=>some x22) else(some s7_8)) fun s7_15=>Z49_q7 a1 a2 (r7) s7_15
theorem Z49_l7_qe {a0:(Sl TDir)}{a1:Bs}{a2:Bs}  (Kb7:((Sl Z9))->Option (Sl Z9)) (hend:∀(n7:Nat) (s7_8:(Sl Z9)) (s8_9:Nat),Z49_j3   s7_8=Kb7 s7_8):∀(n7:Nat) (s7_8:(Sl Z9)) (s8_9:Nat),(0<n7/\a0.l.length<s8_9+n7)->Z49_l7 a0 a1 a2 n7 s7_8 s8_9=Option.bind (Z49_q7 a1 a2 (a0.l.drop s8_9) s7_8) Kb7:=by
 intro n7;induction n7 with
 | zero=>intro s7_8 s8_9 hn; exact absurd hn.1 (by omega)
 | succ n7 ih7 =>
  intro s7_8 s8_9 hn;rw [Z49_l7];by_cases hlt:s8_9<a0.l.length
  ·obtain⟨h7,hh7⟩:=Qa hlt;rw [Q.drop_of hh7,Z49_q7];refine QT hlt ?_;refine Q.bindPO hh7 fun x17 hx_x17=>?_;refine Q.bindPO (Z50_eq _ _) fun x18 hx_x18=>?_;refine Q.bindPO hh7 fun x20 hx_x20=>?_;refine Q.wrapOO fun Kj14 hKj14=>?_;have hj14:∀(s7_15:(Sl Z9)),Z49_j14 s8_9 (Z49_l7 a0 a1 a2 n7) s7_15=Kj14 s7_15:=by
    intro s7_15;refine Qe (hKj14 _) ?_;unfold Z49_j14;all_goals exact ih7 _ _ ⟨by omega,by omega⟩
   refine Q.condO ?_ ?_
   ·refine Q.bindO rfl fun x22=>?_;all_goals exact hj14 _
   all_goals exact hj14 _
  rw [dL (by omega),Z49_q7];refine QF hlt ?_;exact hend n7 s7_8 s8_9
def Z49_q (a0:(Sl TDir)) (a1:Bs) (a2:Bs):Option (Sl Z9):=Option.bind (Z49_q7 a1 a2 a0.l (Sl.nil:Sl Z9)) fun s7_8=>on (s7_8) fun s7_4=>some s7_4
theorem Z49_eq (a0:(Sl TDir)) (a1:Bs) (a2:Bs):Z49 a0 a1 a2=Z49_q a0 a1 a2:=by
 unfold Z49 Z49_q;refine Qs ?_;refine Q.wrapOO fun Kb7 hKb7=>?_;refine Z49_l7_qe  Kb7 ?_ _ _ _ ⟨Nat.succ_pos _,by omega⟩;intro n7 s7_8 s8_9;refine Qe (hKb7 _) ?_;refine Q.wrapPO fun Kj3 hKj3=>?_;have hj3:∀(s7_4:(Sl Z9)),Z49_j3  s7_4=Kj3 s7_4:=by
  intro s7_4;refine Qe (hKj3 _) ?_;unfold Z49_j3;all_goals rfl
 all_goals exact hj3 _
def Z52_q5 (a1:Bs):List Bs->Unit ⊕ Bool
 | []=>Sum.inl ()
 | h5::r5=>on (h5) fun x13=>bif ((x13==a1)) then(Sum.inr true) else(Z52_q5 a1 (r5) )
theorem Z52_l5_qe {a0:(Sl Bs)}{a1:Bs}  (Kb5:(Unit ⊕ Bool)->Option Bool) (hend:∀(n5:Nat) (s5_6:Nat),Z52_j2   =Kb5 (Sum.inl ())) (hret:∀e:Bool,some e=Kb5 (Sum.inr e)):∀(n5:Nat) (s5_6:Nat),(0<n5/\a0.l.length<s5_6+n5)->Z52_l5 a0 a1 n5 s5_6=Kb5 (Z52_q5 a1 (a0.l.drop s5_6) ):=by
 intro n5;induction n5 with
 | zero=>intro s5_6 hn; exact absurd hn.1 (by omega)
 | succ n5 ih5 =>
  intro s5_6 hn;rw [Z52_l5];by_cases hlt:s5_6<a0.l.length
  ·obtain⟨h5,hh5⟩:=Qa hlt;rw [Q.drop_of hh5,Z52_q5];refine QT hlt ?_;refine Q.bindP hh5 fun x13 hx_x13=>?_;refine Q.condP ?_ ?_
   ·all_goals exact hret _
   all_goals exact ih5 _ ⟨by omega,by omega⟩
  rw [dL (by omega),Z52_q5];refine QF hlt ?_;exact hend n5 s5_6
def Z52_q (a0:(Sl Bs)) (a1:Bs):Bool:=on (Z52_q5 a1 a0.l ) fun o5=>match o5 with|Sum.inl _=>(on (()) fun _=>false)|Sum.inr e5=>(e5)
theorem Z52_eq (a0:(Sl Bs)) (a1:Bs):Z52 a0 a1=some (Z52_q a0 a1):=by
 unfold Z52 Z52_q;refine Q.wrapPP fun Kb5 hKb5=>?_;refine Z52_l5_qe  Kb5 ?_ ?_ _ _ ⟨Nat.succ_pos _,by omega⟩
 ·intro n5 s5_6;refine Qe (hKb5 _) ?_;try dsimp only
  refine Q.wrapPP fun Kj2 hKj2=>?_;have hj2:Z52_j2  =Kj2 ():=by
   refine Qe (hKj2 _) ?_;unfold Z52_j2;all_goals rfl
  all_goals exact hj2
 intro e5;refine Qe (hKb5 _) ?_;try dsimp only
 all_goals rfl
def Z51_q9 :List Z9->(Sl Bs)->Option ((Sl Bs))
 | [],s4_10=>some s4_10
 | h9::r9,s4_10=>on (h9) fun x19=>on (bif (decide (x19.FKind=(3:Int))) then h9 else Z9.zero) fun x20=>on (bif (decide (x19.FKind=(3:Int))) then Z52_q s4_10 x20.FText else false) fun x21=>Option.bind (bif ((decide (x19.FKind=(3:Int)))&&(!x21)) then(on (h9) fun x23=>(appC 16 s4_10 (⟨false,[x23.FText]⟩:Sl Bs)).bind fun x24=>some x24) else(some s4_10)) fun s4_17=>Z51_q9  (r9) s4_17
theorem Z51_l9_qe {x3:(Sl Z9)}  (Kb9:((Sl Bs))->Option (Sl Bs)) (hend:∀(n9:Nat) (s4_10:(Sl Bs)) (s5_11:Nat),Z51_j5   s4_10=Kb9 s4_10):∀(n9:Nat) (s4_10:(Sl Bs)) (s5_11:Nat),(0<n9/\x3.l.length<s5_11+n9)->Z51_l9 x3 n9 s4_10 s5_11=Option.bind (Z51_q9  (x3.l.drop s5_11) s4_10) Kb9:=by
 intro n9;induction n9 with
 | zero=>intro s4_10 s5_11 hn; exact absurd hn.1 (by omega)
 | succ n9 ih9 =>
  intro s4_10 s5_11 hn;rw [Z51_l9];by_cases hlt:s5_11<x3.l.length
  ·obtain⟨h9,hh9⟩:=Qa hlt;rw [Q.drop_of hh9,Z51_q9];refine QT hlt ?_;refine Q.bindPO hh9 fun x19 hx_x19=>?_;refine Q.guardPO hh9 fun x20 hx_x20=>?_;refine Q.guardPO (Z52_eq _ _) fun x21 hx_x21=>?_;refine Q.wrapOO fun Kj16 hKj16=>?_;have hj16:∀(s4_17:(Sl Bs)),Z51_j16 s5_11 (Z51_l9 x3 n9) s4_17=Kj16 s4_17:=by
    intro s4_17;refine Qe (hKj16 _) ?_;unfold Z51_j16;all_goals exact ih9 _ _ ⟨by omega,by omega⟩
   refine Q.condO ?_ ?_
   ·refine Q.bindPO hh9 fun x23 hx_x23=>?_;refine Q.bindO rfl fun x24=>?_;all_goals exact hj16 _
   all_goals exact hj16 _
  rw [dL (by omega),Z51_q9];refine QF hlt ?_;exact hend n9 s4_10 s5_11
def Z51_q (a0:(Sl TDir)):Option (Sl Bs):=(Z49_q a0 ([116,97,103]:Bs) ([110,97,109,101]:Bs)).bind fun x3=>Option.bind (Z51_q9  x3.l (Sl.nil:Sl Bs)) fun s4_10=>on (s4_10) fun s4_6=>some s4_6
theorem Z51_eq (a0:(Sl TDir)):Z51 a0=Z51_q a0:=by
 unfold Z51 Z51_q;refine Qs ?_;refine Q.bindO (Z49_eq _ _ _) fun x3=>?_;refine Q.wrapOO fun Kb9 hKb9=>?_;refine Z51_l9_qe  Kb9 ?_ _ _ _ ⟨Nat.succ_pos _,by omega⟩;intro n9 s4_10 s5_11;refine Qe (hKb9 _) ?_;refine Q.wrapPO fun Kj5 hKj5=>?_;have hj5:∀(s4_6:(Sl Bs)),Z51_j5  s4_6=Kj5 s4_6:=by
  intro s4_6;refine Qe (hKj5 _) ?_;unfold Z51_j5;all_goals rfl
 all_goals exact hj5 _
def Z46_q21 (x10:(Sl Bs)):List Bs->Nat->Option (Unit ⊕ Bool)
 | [],s5_22=>some (Sum.inl ())
 | h21::r21,s5_22=>on (h21) fun x29=>(x10.l[s5_22]?).bind fun x30=>bif (!(x29==x30)) then(some (Sum.inr false)) else(Z46_q21 x10 (r21) (s5_22+1) )
theorem Z46_l21_qe {x9:(Sl Bs)}{x10:(Sl Bs)}  (Kb21:(Unit ⊕ Bool)->Option Bool) (hend:∀(n21:Nat) (s5_22:Nat),Z46_j17   =Kb21 (Sum.inl ())) (hret:∀e:Bool,some e=Kb21 (Sum.inr e)):∀(n21:Nat) (s5_22:Nat),(0<n21/\x9.l.length<s5_22+n21)->Z46_l21 x9 x10 n21 s5_22=Option.bind (Z46_q21 x10 (x9.l.drop s5_22) s5_22 ) Kb21:=by
 intro n21;induction n21 with
 | zero=>intro s5_22 hn; exact absurd hn.1 (by omega)
 | succ n21 ih21 =>
  intro s5_22 hn;rw [Z46_l21];by_cases hlt:s5_22<x9.l.length
  ·obtain⟨h21,hh21⟩:=Qa hlt;rw [Q.drop_of hh21,Z46_q21];refine QT hlt ?_;refine Q.bindPO hh21 fun x29 hx_x29=>?_;refine Q.bindO rfl fun x30=>?_;refine Q.condO ?_ ?_
   ·all_goals exact hret _
   all_goals exact ih21 _ ⟨by omega,by omega⟩
  rw [dL (by omega),Z46_q21];refine QF hlt ?_;exact hend n21 s5_22
def Z46_q (a0:(Sl TDir)):Option Bool:=bif (decide ((60:Int)<((a0.l.length:Nat):Int))) then((Z47).bind fun x7=>some x7) else((Z29_q a0).bind fun x9=>(Z51_q a0).bind fun x10=>bif (!decide (((x9.l.length:Nat):Int)=((x10.l.length:Nat):Int))) then(some false) else(Option.bind (Z46_q21 x10 x9.l 0 ) fun o21=>match o21 with|Sum.inl _=>(on (()) fun _=>(Z47).bind fun x19=>some x19)|Sum.inr e21=>(some e21)))
theorem Z46_eq (a0:(Sl TDir)):Z46 a0=Z46_q a0:=by
 unfold Z46 Z46_q;refine Qs ?_;refine Q.condO ?_ ?_
 ·refine Q.bindO rfl fun x7=>?_;all_goals rfl
 refine Q.bindO (Z29_eq _) fun x9=>?_;refine Q.bindO (Z51_eq _) fun x10=>?_;refine Q.condO ?_ ?_
 ·all_goals rfl
 refine Q.wrapOO fun Kb21 hKb21=>?_;refine Z46_l21_qe  Kb21 ?_ ?_ _ _ ⟨Nat.succ_pos _,by omega⟩
 ·intro n21 s5_22;refine Qe (hKb21 _) ?_;try dsimp only
  refine Q.wrapPO fun Kj17 hKj17=>?_;have hj17:Z46_j17  =Kj17 ():=by
   refine Qe (hKj17 _) ?_;unfold Z46_j17;refine Q.bindO rfl fun x19=>?_;all_goals rfl
  all_goals exact hj17
 intro e21;refine Qe (hKb21 _) ?_;try dsimp only
 all_goals rfl
end Go.Proofs

namespace Go.Proofs
open Go Go.Ab
theorem appTg {α:Type}{z:Nat}{s r:Sl α}(hz:z<=200) (h:s.l.length+r.l.length<=10000000):appC z s r=some ⟨s.nl&&r.l.isEmpty,s.l++r.l⟩:=by
 unfold appC; rw [if_pos];have h1:(s.l.length+r.l.length)*z<=10000000*200:=Nat.mul_le_mul h hz;unfold maxN; omega
theorem argT6 (a:Bs):∀l:List TArg,Z50_q6 a l=Z44_q7 a l
 | []=>rfl
 | x::r=>by rw [Z50_q6,Z44_q7,argT6 a r]; rfl
theorem argT (x:TDir) (a:Bs):Z50_q x a=Z44_q x a:=by
 unfold Z50_q Z44_q;rw [argT6]; all_goals rfl
theorem allT7 (n a:Bs):∀(l:List TDir) (s:Sl Z9),Z49_q7 n a l s=Z43_q8 n a l s
 | [],_=>rfl
 | x::r,s=>by
  rw [Z49_q7,Z43_q8];simp only [Ab.on,argT,Bool.and_comm (x.FName==n)]
  congr 1; funext z; exact allT7 n a r z
theorem allT (s:Sl TDir) (n a:Bs):Z49_q s n a=Z43_q s n a:=by
 unfold Z49_q Z43_q;rw [allT7]
theorem allTold (n a:Bs):∀(l:List TDir) (s:Sl Z9),s.l.length+l.length<=1000000->∃r,Z43_q8 n a l s=some r/\r.l.length<=s.l.length+l.length
 | [],s,_=>⟨s,rfl,by simp⟩
 | x::r,s,h=>by
  simp only [List.length_cons] at h;rw [Z43_q8];simp only [Ab.on];cases (Z44_q x a).2&&(x.FName==n)
  ·obtain⟨z,e1,e2⟩:=allTold n a r s (by omega);exact⟨z,e1,by simp; omega⟩
  ·rw [cond_true,appTg (by omega) (by simp; omega),oB,oB];obtain⟨z,e1,e2⟩:=allTold n a r ⟨s.nl&&[(Z44_q x a).1].isEmpty,s.l++[(Z44_q x a).1]⟩ (by simp; omega);exact⟨z,e1,by simp at e2 ⊢; omega⟩
theorem idxT6 (n:Bs):∀(l:List Bs) (i:Nat),Z81_q6 n l i=Sum.inl ()/\Z52_q5 n l=Sum.inl ()\/(∃j:Nat,Z81_q6 n l i=Sum.inr (j:Int))/\Z52_q5 n l=Sum.inr true
 | [],_=>.inl ⟨rfl,rfl⟩
 | x::r,i=>by
  rw [Z81_q6,Z52_q5];simp only [Ab.on,show (x==n)=(n==x) from BEq.comm];cases n==x
  ·exact idxT6 n r (i+1)
  ·exact .inr ⟨⟨i,rfl⟩,rfl⟩
theorem hasT (s:Sl Bs) (n:Bs):Z52_q s n=Z74_q s n:=by
 unfold Z52_q Z74_q Z81_q;rcases idxT6 n s.l 0 with ⟨e1,e2⟩|⟨⟨j,e1⟩,e2⟩<;>rw [e1,e2]
 ·rfl
 ·simp [Ab.on]
theorem tagsT9:∀(l:List Z9) (s:Sl Bs),s.l.length+l.length<=1000000->∃r,Z29_q9 l s=some r/\Z51_q9 l s=some r
 | [],s,_=>⟨s,rfl,rfl⟩
 | x::r,s,h=>by
  simp only [List.length_cons] at h;rw [Z29_q9,Z51_q9];simp only [Ab.on];cases hk:decide (x.FKind=(3:Int))
  ·simp only [cond_false,Bool.false_and,oB];exact tagsT9 r s (by omega)
  ·simp only [cond_true,Bool.true_and,hasT];cases Z74_q s x.FText
   ·simp only [Bool.not_false,cond_true];rw [appTg (by omega) (by simp; omega)];simp only [oB];exact tagsT9 r _ (by simp; omega)
   ·simp only [Bool.not_true,cond_false,oB];exact tagsT9 r s (by omega)
theorem tags_same {a:Sl TDir}(h:a.l.length<=60):∃r,Z29_q a=some r/\Z51_q a=some r:=by
 unfold Z29_q Z51_q;rw [allT];unfold Z43_q;obtain⟨x,e1,e2⟩:=allTold [116,97,103] [110,97,109,101] a.l (Sl.nil:Sl Z9) (by simp [Sl.nil]; omega);rw [e1];simp only [Ab.on,oB];obtain⟨r,f1,f2⟩:=tagsT9 x.l (Sl.nil:Sl Bs) (by simp [Sl.nil] at e2 ⊢; omega);rw [f1,f2];exact⟨r,rfl,rfl⟩
theorem sameT21 (s:Sl Bs):∀(l:List Bs) (i:Nat),s.l.drop i=l->Z46_q21 s l i=some (Sum.inl ())
 | [],_,_=>rfl
 | x::r,i,h=>by
  have hlt:i<s.l.length:=by
   rcases Nat.lt_or_ge i s.l.length with h1|h1
   ·exact h1
   ·rw [List.drop_of_length_le h1] at h; cases h
  rw [List.drop_eq_getElem_cons hlt] at h
  injection h with h1 h2
  rw [Z46_q21];simp only [Ab.on,List.getElem?_eq_getElem hlt,h1,oB,beq_self_eq_true,Bool.not_true,cond_false];exact sameT21 s r (i+1) h2
theorem example51:Z47=some true:=by kernel_rfl
theorem tags_eq (a:Sl TDir):Z46_q a=some true:=by
 unfold Z46_q;rw [example51];by_cases h:(60:Int)<((a.l.length:Nat):Int)
 ·rw [dT h]; rfl
 ·obtain⟨r,e1,e2⟩:=tags_same (a:=a) (by omega);rw [dF h,cond_false,e1,e2,oB,oB,dT rfl,Bool.not_true,cond_false,sameT21 r r.l 0 rfl];rfl
end Go.Proofs

namespace Go.Proofs.YtiamohifcjoepaaGreatDoor
open Go Go.Ab Go.RowKit Go.ChangeShapes Go.WideShapes Go.ChangeAt
theorem bulkAll {H:Type}(l:List (DataW H)):Rows.uptoBulkAll l=(l.map Rows.uptoBulk).sum:=by
 induction l with
 | nil=>rfl
 | cons x r ih=>simp only [Rows.uptoBulkAll,List.map_cons,List.sum_cons,ih]
theorem bulkB {H:Type}:Bulk (H:=H) Rows.uptoBulk:=by
 refine⟨fun d=>?_,fun b=>by simp [Rows.uptoBulk],fun e s=>by simp only [Rows.uptoBulk,bulkAll]; omega,fun l=>by simp only [Rows.uptoBulk,bulkAll]; omega⟩;cases d with
 | lit l=>cases l<;>simp [Rows.uptoBulk]
 | nil=>simp [Rows.uptoBulk]
 | ptr d=>simp [Rows.uptoBulk]
 | slice elems spare=>simp [Rows.uptoBulk]
 | agg parts=>simp [Rows.uptoBulk]
 | iface t d=>simp [Rows.uptoBulk]
 | map entries=>simp [Rows.uptoBulk]
 | held h=>simp [Rows.uptoBulk]
theorem own:ownKnob Tryz.prog.godebug=none:=by kernel_rfl
theorem laid:laidOutB Tryz.prog=true:=by kernel_rfl
theorem bound {H:Type}{l:List (DataW H)}(hk:Rows.uptoSmall H l=true):Rows.uptoBulkAll l<=1048576:=oD hk
theorem tags_call (a:Sl TDir):@AC Lou.on Tryz.prog 3 [.d (Sl.d 2 TDir.c none a)] h0 fun r h'=>r=.a (.d (.bool true))/\h'=h0 :=
 Z46_walk (by rw [Z46_eq]; exact tags_eq a) h0
end Go.Proofs.YtiamohifcjoepaaGreatDoor

