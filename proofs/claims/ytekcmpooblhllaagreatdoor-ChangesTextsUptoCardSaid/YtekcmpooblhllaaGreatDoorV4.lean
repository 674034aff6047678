import Derived.Test.YtekcmpooblhllaaGreatDoorV3
set_option maxRecDepth 100000
set_option maxHeartbeats 2000000
set_option linter.unusedVariables false
set_option linter.unusedSimpArgs false
namespace Go.Proofs
open Go Go.Ab
open AOps Cert AWp Keeps KeepsT
variable {lou:Lou}
def Z42_j10 (a0:Bs)  (s5_11:(Sl Z2)):Option ((Sl Z2)×Int×Int):=(appC 32 s5_11 (⟨false,[(Z2.mk (5:Int) ([]:Bs) ((a0.length:Nat):Int))]⟩:Sl Z2)).bind fun x14=>some (x14,(0:Int),(0:Int))
def Z42_l16 (a0:Bs) :Nat->(Sl Z2)->Int->Option ((Sl Z2)×Int×Int)
 | 0,_,_=>none
 | n16+1,s5_17,s6_18=>bif (decide (s6_18<((a0.length:Nat):Int))) then((Z46 a0 s6_18).bind fun x24=>bif (!decide (x24.2.2=(0:Int))) then(some ((Sl.nil:Sl Z2),s6_18,x24.2.2)) else((appC 32 s5_17 (⟨false,[x24.1]⟩:Sl Z2)).bind fun x30=>(Z48 a0 x24.2.1).bind fun x31=>(Z42_l16 a0 n16) x30 x31)) else(Z42_j10 a0  s5_17)
def Z42 (a0:Bs):Option ((Sl Z2)×Int×Int):=bif (decide ((65536:Int)<((a0.length:Nat):Int))) then(some ((Sl.nil:Sl Z2),(65536:Int),(4:Int))) else((Z48 a0 (0:Int)).bind fun x9=>Z42_l16 a0 F0 (Sl.nil:Sl Z2) x9)
theorem Z42_walk {a0:Bs}{r:((Sl Z2)×Int×Int)}(hE:Z42 a0=some r) (H:Heap) :AC Tryz.prog 34 [.d (.str a0)] H fun v h'=>v=.tup [.d (Sl.d 3 Z2.c none r.1),.d (.int .i64 r.2.1),.d (.int .i64 r.2.2)]/\h'=H:=by
 unfold Z42 at hE;refine AC.oW 44 [.tmp 2,.tmp 3,.tmp 4] Tryz.call34 Tryz.func34 ?_;refine AWp.tok 3 fun tk1 htk1=>?_;refine seqR ?_;refine s0 (assignNil (k':=3) rfl) rfl ?_;refine S As (S As (nil ?_));refine seqK fun K2 hK2=>?_;refine seqR (S Mv ?_);refine sLenS (TK rfl) rfl rfl rfl rfl fun hL4=>?_;refine S BI (nil ?_);refine cE hE (fun hc5 hE=>?_) (fun hc5 hE=>?_)
 ·refine seqR ?_;refine s0 (assignNil (k':=3) rfl) rfl ?_;refine S As (S As (nil ?_));refine AWp.ret ?_;repeat (first|refine xBlock_ret ?_|refine xThen_ret ?_)
  obtain rfl:=oJ hE;refine retQ.retF H rfl ⟨rfl,rfl⟩ ?_
  first|exact Heap.sub_set htk1|(simp only [Heap.set_set]; exact Heap.sub_set htk1)
 refine sk hK2 ?_;clear hK2 K2;refine seqR (S As (nil ?_));refine AWp.nilTok 5 3 tk1 rfl hpG ?_;refine seqR (S Mv ?_);obtain⟨x9,gx9,hE⟩:=bO hE;refine Sc rfl rfl (Z48_walk gx9) ?_;refine S As (nil ?_);refine seqJH (TA 0 kN) (fun(z:(Sl Z2))=>[(5,.a (.d (Sl.d 3 Z2.c (some tk1) z)))]) (fun z=>(H.set tk1 (some (.tok 3 z.l.length)))) (fun z=>Z42_j10 a0 z=some r) ?_ ?_
 ·intro K10 hK10;refine block ?_;refine loopH (TA 0 kN) (fun(z:Nat×(Sl Z2)×Int)=>[(5,.a (.d (Sl.d 3 Z2.c (some tk1) z.2.1))),(6,.a (.d (.int .i64 z.2.2)))]) (fun z=>(H.set tk1 (some (.tok 3 z.2.1.l.length)))) (fun z=>z.1) (fun z=>Z42_l16 a0 z.1 z.2.1 z.2.2=some r) (F0,(Sl.nil:Sl Z2),x9) hE wA ?_;rintro ⟨n16,s5_17,s6_18⟩ hE K16 hK16;try dsimp only at hE
  cases n16 with
  | zero=>cases hE
  | succ n16 =>
    rw [Z42_l16] at hE;refine seqK fun K19 hK19=>?_;refine seqR (S Mv (S Mv ?_));refine sLenS (TK rfl) rfl rfl rfl rfl fun hL21=>?_;refine S BI (nil ?_);refine cE hE (fun hc22 hE=>?_) (fun hc22 hE=>?_)
    ·refine sk hK19 ?_;clear hK19 K19;refine block ?_;refine seqR (S Mv (S Mv ?_));obtain⟨x24,gx24,hE⟩:=bO hE;refine Sc rfl rfl (Z46_walk gx24) ?_;refine S Mv (S EX (S EX (S EX ?_)));refine Sl ?_;refine Sf ?_;refine S As (S As (nil ?_));refine freezeA 7 _ rfl (KA 0 (KA 5 (KA 6 (KA 8 (KA 9 Keeps.nil))))) ?_;refine seqK fun K25 hK25=>?_;refine seqR (S Mv (S BI (nil ?_)));refine cE hE (fun hc27 hE=>?_) (fun hc27 hE=>?_)
     ·refine seqR (S Mv (S Mv ?_));refine s0 (assignNil (k':=3) rfl) rfl ?_;refine S As (S As (nil ?_));refine AWp.ret ?_;repeat (first|refine xBlock_ret ?_|refine xThen_ret ?_)
      obtain rfl:=oJ hE;refine retQ.retF H rfl ⟨rfl,rfl⟩ ?_
      first|exact Heap.sub_set htk1|(simp only [Heap.set_set]; exact Heap.sub_set htk1)
     refine sk hK25 ?_;clear hK25 K25;refine seqR (S Mv (S Ld (S BV ?_)));obtain⟨x30,gx30,hE⟩:=bO hE;refine SH (am Z2.c (TK rfl) rfl (TK rfl) (TK rfl) gx30) ?_;refine hq (H.set tk1 (some (.tok 3 x30.l.length))) ?_;refine S As (nil ?_);refine region ?_;refine S Mv (S Mv ?_);obtain⟨x31,gx31,hE⟩:=bO hE;refine Sc rfl rfl (Z48_walk gx31) ?_;refine S As (nil ?_);exact hK16 _ (n16,x30,x31) wA hE (nS _)
    refine AWp.exit ?_;exact hK10 _ s5_17 wA hE
 rintro s5_11 hE;try dsimp only at hE
 unfold Z42_j10 at hE;refine seqR (S Mv (S Mv ?_));refine sLenS (TK rfl) rfl rfl rfl rfl fun hL13=>?_;refine S BU (S BV ?_);obtain⟨x14,gx14,hE⟩:=bO hE;refine SH (am Z2.c (TK rfl) rfl (TK rfl) (TK rfl) gx14) ?_;refine hq (H.set tk1 (some (.tok 3 x14.l.length))) ?_;refine S As (nil ?_);refine seqR (S Mv (S As (S As (S As (nil ?_)))));refine AWp.dropTok 2 rfl ?_;refine AWp.ret ?_;repeat (first|refine xBlock_ret ?_|refine xThen_ret ?_)
 obtain rfl:=oJ hE;refine retQ.retF H rfl ⟨rfl,rfl⟩ ?_
 first|exact Heap.sub_set htk1|(simp only [Heap.set_set]; exact Heap.sub_set htk1)
def Z64 (a0:(Sl Z2)) (a1:Int) (a2:Bs):Option Bool:=guardO ((decide (a1<((a0.l.length:Nat):Int)))) (idxC a0.l a1) Z2.zero fun x4=>guardO (((decide (a1<((a0.l.length:Nat):Int)))&&(decide (x4.FKind=(1:Int))))) (idxC a0.l a1) Z2.zero fun x5=>some (((decide (a1<((a0.l.length:Nat):Int)))&&(decide (x4.FKind=(1:Int))))&&((x5.FText==a2)))
theorem Z64_walk {a0:Sl Z2}{a1:Int}{a2:Bs}{w0:Option Nat}{r:Bool}(hE:Z64 a0 a1 a2=some r) (H:Heap) :AC Tryz.prog 55 [.d (Sl.d 3 Z2.c w0 a0),.d (.int .i64 a1),.d (.str a2)] H fun v h'=>v=.a (.d (.bool r))/\h'=H:=by
 unfold Z64 at hE;refine AC.oW 28 [.tmp 6] Tryz.call55 Tryz.func55 ?_;refine seqR (S As (nil ?_));refine seqR (S Mv (S Mv ?_));refine sLen (f:=Z2.c) (s:=a0) (TK rfl) rfl rfl rfl rfl fun hL3=>?_;refine S BI (S Mv (G0 Mv (G0 Mv ?_)));obtain⟨x4,gx4,hE⟩:=gO hE;refine gC rfl rfl (fun hC=>ungdA (k:=12) rfl (ungdA (k:=13) rfl (idxM (f:=Z2.c) (TK rfl) rfl (TK rfl) rfl rfl rfl (gx4 hC)))) rfl ?_;refine G1 14 rfl Fv ?_
 refine G1 15 rfl Ld ?_;refine G1 16 rfl BI ?_;refine S PA (S Mv (G0 Mv (G0 Mv ?_)));obtain⟨x5,gx5,hE⟩:=gO hE;refine gC rfl rfl (fun hC=>ungdA (k:=20) rfl (ungdA (k:=21) rfl (idxM (f:=Z2.c) (TK rfl) rfl (TK rfl) rfl rfl rfl (gx5 hC)))) rfl ?_;refine G1 22 rfl Fv ?_;refine G1 23 rfl Ld ?_;refine G0 Mv ?_;refine G2 24 25 rfl rfl BS ?_;refine S PA (S As (nil ?_));exact rt hE
def Z65 (a0:Int) (a1:TRef):Option TRef:=(appC 8 (⟨false,[a0]⟩:Sl Int) a1.FWraps).bind fun x3=>some (TRef.mk a1.FName x3)
theorem Z65_walk {a0:Int}{a1 r:TRef}(hE:Z65 a0 a1=some r) (H:Heap) :AC Tryz.prog 98 [.d (.int .i64 a0),.agg (TRef.c a1)] H fun v h'=>v=.a (.agg (TRef.c r))/\h'=H:=by
 unfold Z65 at hE;refine AC.oW 13 [.cell 4 29] Tryz.call98 Tryz.func98 ?_;refine seqR (S BX ?_);refine Sl ?_;refine nil ?_;refine AWp.seqD (Sd Fv (Sd Ld (Sd Mv ?_)));refine DOps.s0 (buildSliceF (TK rfl) rfl (TK rfl) rfl rfl rfl rfl rfl rfl) rfl ?_;refine Sd Fv (Sd Ld ?_);obtain⟨x3,gx3,hE⟩:=bO hE;refine DOps.s0 (appFM (f:=(intE .i64)) (TK rfl) rfl (TK rfl) (TK rfl) ⟨_,rfl⟩ rfl rfl (by decide) rfl rfl rfl (by intro q h; cases h<;>decide) rfl rfl gx3) rfl ?_
 refine Sd BU ?_;refine DOps.sLn (storeLFA (TK rfl) rfl rfl rfl rfl rfl) ?_;refine DOps.nil (by decide +kernel) ?_;exact rt hE
def Z55 (a0:TRef):Option TRef:=(Z65 (2:Int) a0).bind fun x3=>some x3
theorem Z55_walk {a0 r:TRef}(hE:Z55 a0=some r) (H:Heap) :AC Tryz.prog 56 [.agg (TRef.c a0)] H fun v h'=>v=.a (.agg (TRef.c r))/\h'=H:=by
 unfold Z55 at hE;refine AC.oW 5 [.cell 2 29] Tryz.call56 Tryz.func56 ?_;refine seqR (S BX ?_);refine Sl ?_;refine nil ?_;refine seqR (S Ld ?_);obtain⟨x3,gx3,hE⟩:=bO hE;refine Sc rfl rfl (Z65_walk gx3) ?_;refine Sf ?_;refine nil ?_;exact rt hE
def Z54 (a0:TRef):Option Bool:=guardO ((decide ((0:Int)<((a0.FWraps.l.length:Nat):Int)))) (a0.FWraps.l[0]?) (0:Int) fun x4=>some ((decide ((0:Int)<((a0.FWraps.l.length:Nat):Int)))&&(decide (x4=(1:Int))))
theorem Z54_walk {a0:TRef}{r:Bool}(hE:Z54 a0=some r) (H:Heap) :AC Tryz.prog 37 [.agg (TRef.c a0)] H fun v h'=>v=.a (.d (.bool r))/\h'=H:=by
 unfold Z54 at hE;refine AC.oW 14 [.tmp 2] Tryz.call37 Tryz.func37 ?_;refine seqR (S BX (S As (nil ?_)));refine seqR (S Fv (S Ld ?_));refine sLen (f:=(intE .i64)) (s:=a0.FWraps) (TK rfl) rfl rfl rfl rfl fun hL3=>?_;refine S BI (S Mv (G0 Fv ?_));refine G1 8 rfl Ld ?_;obtain⟨x4,gx4,hE⟩:=gO hE;refine gC rfl rfl (fun hC=>ungdA (k:=9) rfl (idxMn (f:=(intE .i64)) (n:=0) (TK rfl) rfl (TK rfl) rfl rfl rfl (gx4 hC))) rfl ?_
 refine G1 10 rfl Ld ?_;refine G1 11 rfl BI ?_;refine S PA (S As (nil ?_));exact rt hE
def Z56 (a0:TRef):Option TRef:=(Z54 a0).bind fun x4=>bif x4 then((appC 8 (⟨false,[]⟩:Sl Int) a0.FWraps).bind fun x7=>some (TRef.mk a0.FName x7)) else((Z65 (1:Int) a0).bind fun x9=>some x9)
theorem Z56_walk {a0 r:TRef}(hE:Z56 a0=some r) (H:Heap) :AC Tryz.prog 57 [.agg (TRef.c a0)] H fun v h'=>v=.a (.agg (TRef.c r))/\h'=H:=by
 unfold Z56 at hE;refine AC.oW 14 [.cell 2 29] Tryz.call57 Tryz.func57 ?_;refine seqR (S BX ?_);refine Sl ?_;refine nil ?_;refine seqK fun K2 hK2=>?_;refine seqR (S Ld ?_);obtain⟨x4,gx4,hE⟩:=bO hE;refine Sc rfl rfl (Z54_walk gx4) ?_;refine nil ?_;refine cE hE (fun hc5 hE=>?_) (fun hc5 hE=>?_)
 ·refine AWp.seqD (Sd Fv (Sd Ld ?_));refine DOps.s0 (buildSliceF (TK rfl) rfl (TK rfl) rfl rfl rfl rfl rfl rfl) rfl ?_;refine Sd Fv (Sd Ld ?_);obtain⟨x7,gx7,hE⟩:=bO hE;refine DOps.s0 (appFM (f:=(intE .i64)) (TK rfl) rfl (TK rfl) (TK rfl) ⟨_,rfl⟩ rfl rfl (by decide) rfl rfl rfl (by intro q h; cases h<;>decide) rfl rfl gx7) rfl ?_;refine Sd BU ?_;refine DOps.sLn (storeLFA (TK rfl) rfl rfl rfl rfl rfl) ?_
  refine DOps.nil (by decide +kernel) ?_;exact rt hE
 refine sk hK2 ?_;clear hK2 K2;refine seqR (S Ld ?_);obtain⟨x9,gx9,hE⟩:=bO hE;refine Sc rfl rfl (Z65_walk gx9) ?_;refine Sf ?_;refine nil ?_;exact rt hE
def Z60_j7  (s1_8:Int) (y9_l1:TRef):Option (TRef×Int×Bool):=some (y9_l1,s1_8,true)
def Z60_j3 (a0:(Sl Z2))  (s1_4:Int) (y5_l0:TRef) (y6_l1:TRef):Option (TRef×Int×Bool):=(Z64 a0 s1_4 ([33]:Bs)).bind fun x12=>bif x12 then((Z56 y6_l1).bind fun x15=>(addC s1_4 (1:Int)).bind fun x16=>Z60_j7   x16 x15) else(Z60_j7   s1_4 y6_l1)
def Z60_n:Nat->(Sl Z2)->Int->Option (TRef×Int×Bool)
 | 0,_,_=>none
 | n+1,a0,a1=>(Z64 a0 a1 ([91]:Bs)).bind fun x18=>bif x18 then((addC a1 (1:Int)).bind fun x21=>((Z60_n n) a0 x21).bind fun x22=>guardO (!(!x22.2.2)) (Z64 a0 x22.2.1 ([93]:Bs)) false fun x25=>bif ((!x22.2.2)||(!x25)) then(some ((TRef.mk ([]:Bs) (Sl.nil:Sl Int)),(0:Int),false)) else((Z55 x22.1).bind fun x29=>(addC x22.2.1 (1:Int)).bind fun x30=>Z60_j3 a0  x30 TRef.zero x29)) else(guardO (!(decide (((a0.l.length:Nat):Int)<=a1))) (idxC a0.l a1) Z2.zero fun x34=>bif ((decide (((a0.l.length:Nat):Int)<=a1))||(!decide (x34.FKind=(2:Int)))) then(some ((TRef.mk ([]:Bs) (Sl.nil:Sl Int)),(0:Int),false)) else((idxC a0.l a1).bind fun x38=>(addC a1 (1:Int)).bind fun x39=>Z60_j3 a0  x39 TRef.zero (TRef.mk x38.FText ((TRef.mk ([]:Bs) (Sl.nil:Sl Int)).FWraps))))
theorem Z60_step (n:Nat) (ih_35:∀{a0:Sl Z2}{a1:Int}{w0:Option Nat}{r:TRef×Int×Bool},Z60_n n a0 a1=some r->∀(H:Heap),AC Tryz.prog 35 [.d (Sl.d 3 Z2.c w0 a0),.d (.int .i64 a1)] H fun v h'=>v=.tup [.agg (TRef.c r.1),.d (.int .i64 r.2.1),.d (.bool r.2.2)]/\h'=H):∀{a0:Sl Z2}{a1:Int}{w0:Option Nat}{r:TRef×Int×Bool},Z60_n (n+1) a0 a1=some r->∀(H:Heap),AC Tryz.prog 35 [.d (Sl.d 3 Z2.c w0 a0),.d (.int .i64 a1)] H fun v h'=>v=.tup [.agg (TRef.c r.1),.d (.int .i64 r.2.1),.d (.bool r.2.2)]/\h'=H:=by
 intro a0 a1 w0  r hE H ;rw [Z60_n] at hE;refine AC.oW 66 [.cell 4 29,.tmp 5,.tmp 6] Tryz.call35 Tryz.func35 ?_;refine seqR ?_;refine Sl ?_;refine S As (S As (nil ?_));refine seqR (S BU ?_);refine Sl ?_;refine Sf ?_;refine nil ?_;refine seqJ (TA 0 (TA 4 (TA 7 kN))) (fun(z:Int×TRef×TRef)=>[(1,.a (.d (.int .i64 z.1)))]) (fun z=>[TRef.c z.2.1,TRef.c z.2.2]) (fun z=>H) (fun z=>Z60_j3 a0 z.1 z.2.1 z.2.2=some r) ?_ ?_
 ·intro K3 hK3;refine seqR (S Mv (S Mv ?_));obtain⟨x18,gx18,hE⟩:=bO hE;refine Sc rfl rfl (Z64_walk gx18) ?_;refine nil ?_;refine cE hE (fun hc19 hE=>?_) (fun hc19 hE=>?_)
  ·refine seqR (S Mv (S Mv ?_));obtain⟨x21,gx21,hE⟩:=bO hE;refine s0 (addM rfl rfl gx21) rfl ?_;obtain⟨x22,gx22,hE⟩:=bO hE;refine Sc rfl rfl (ih_35 gx22) ?_;refine S Mv (S EX (S EX (S EX ?_)));refine Sl ?_;refine Sf ?_;refine S As (S As (nil ?_));refine freezeA 8 _ rfl (KA 0 (KA 4 (KA 7 (KA 9 (KA 10 Keeps.nil))))) ?_;refine seqK fun K23 hK23=>?_;refine seqR (S Mv (S NB (S Mv (G0 Mv (G0 Mv ?_)))));obtain⟨x25,gx25,hE⟩:=gO hE
   refine Gc2 26 27 rfl rfl rfl rfl rfl rfl (fun hC=>Z64_walk (gx25 hC)) ?_;refine G1 28 rfl NB ?_;refine S PO (nil ?_);refine cE hE (fun hc26 hE=>?_) (fun hc26 hE=>?_)
   ·refine seqR (S BU ?_);refine Sf ?_;refine S As (S As (nil ?_));exact rt hE
   refine sk hK23 ?_;clear hK23 K23;refine seqR (S Ld ?_);obtain⟨x29,gx29,hE⟩:=bO hE;refine Sc rfl rfl (Z55_walk gx29) ?_;refine Sf ?_;refine nil ?_;refine region ?_;refine S Mv ?_;obtain⟨x30,gx30,hE⟩:=bO hE;refine s0 (addM rfl rfl gx30) rfl ?_;refine S As (nil ?_);exact hK3 _ (x30,TRef.zero,x29) wA hE
  refine seqK fun K31 hK31=>?_;refine seqR (S Mv (S Mv ?_));refine sLen (f:=Z2.c) (s:=a0) (TK rfl) rfl rfl rfl rfl fun hL33=>?_;refine S BI (S Mv (G0 Mv (G0 Mv ?_)));obtain⟨x34,gx34,hE⟩:=gO hE;refine gC rfl rfl (fun hC=>ungdA (k:=41) rfl (ungdA (k:=42) rfl (idxM (f:=Z2.c) (TK rfl) rfl (TK rfl) rfl rfl rfl (gx34 hC)))) rfl ?_;refine G1 43 rfl Fv ?_;refine G1 44 rfl Ld ?_;refine G1 45 rfl BI ?_;refine S PO (nil ?_)
  refine cE hE (fun hc35 hE=>?_) (fun hc35 hE=>?_)
  ·refine seqR (S BU ?_);refine Sf ?_;refine S As (S As (nil ?_));exact rt hE
  refine sk hK31 ?_;clear hK31 K31;refine seqR (S Mv (S Mv ?_));obtain⟨x38,gx38,hE⟩:=bO hE;refine s0 (idxM (f:=Z2.c) (TK rfl) rfl (TK rfl) rfl rfl rfl gx38) rfl ?_;refine S Fv (S Ld (S FL ?_));refine Sf ?_;refine nil ?_;refine region ?_;refine S Mv ?_;obtain⟨x39,gx39,hE⟩:=bO hE;refine s0 (addM rfl rfl gx39) rfl ?_;refine S As (nil ?_);exact hK3 _ (x39,TRef.zero,(TRef.mk x38.FText ((TRef.mk ([]:Bs) (Sl.nil:Sl Int)).FWraps))) wA hE
 rintro ⟨s1_4,y5_l0,y6_l1⟩ hE;try dsimp only at hE
 unfold Z60_j3 at hE;refine seqJ (TA 4 (TA 7 kN)) (fun(z:Int×TRef)=>[(1,.a (.d (.int .i64 z.1)))]) (fun z=>[TRef.c y5_l0,TRef.c z.2]) (fun z=>H) (fun z=>Z60_j7 z.1 z.2=some r) ?_ ?_
 ·intro K7 hK7;refine seqR (S Mv (S Mv ?_));obtain⟨x12,gx12,hE⟩:=bO hE;refine Sc rfl rfl (Z64_walk gx12) ?_;refine nil ?_;refine cE hE (fun hc13 hE=>?_) (fun hc13 hE=>?_)
  ·refine seqR (S LL ?_);obtain⟨x15,gx15,hE⟩:=bO hE;refine Sc rfl rfl (Z56_walk gx15) ?_;refine Sf ?_;refine nil ?_;refine region ?_;refine S Mv ?_;obtain⟨x16,gx16,hE⟩:=bO hE;refine s0 (addM rfl rfl gx16) rfl ?_;refine S As (nil ?_);exact hK7 _ (x16,x15) wA hE
  refine AWp.skip ?_;exact hK7 _ (s1_4,y6_l1) wA hE
 rintro ⟨s1_8,y9_l1⟩ hE;try dsimp only at hE
 unfold Z60_j7 at hE;refine seqR (S LL (S Mv ?_));refine Sf ?_;refine S As (S As (nil ?_));exact rt hE
theorem Z60_all:∀(n:Nat),(∀{a0:Sl Z2}{a1:Int}{w0:Option Nat}{r:TRef×Int×Bool},Z60_n n a0 a1=some r->∀(H:Heap),AC Tryz.prog 35 [.d (Sl.d 3 Z2.c w0 a0),.d (.int .i64 a1)] H fun v h'=>v=.tup [.agg (TRef.c r.1),.d (.int .i64 r.2.1),.d (.bool r.2.2)]/\h'=H)
 | 0=>fun hE=>by first|cases hE|(rw [Z60_n] at hE; cases hE)
 | n+1=>Z60_step n (Z60_all n)
def Z60 (a0:(Sl Z2)) (a1:Int):Option (TRef×Int×Bool):=Z60_n F0 a0 a1
theorem Z60_walk {a0:Sl Z2}{a1:Int}{w0:Option Nat}{r:TRef×Int×Bool}(hE:Z60 a0 a1=some r) (H:Heap) :AC Tryz.prog 35 [.d (Sl.d 3 Z2.c w0 a0),.d (.int .i64 a1)] H fun v h'=>v=.tup [.agg (TRef.c r.1),.d (.int .i64 r.2.1),.d (.bool r.2.2)]/\h'=H:=(Z60_all F0) hE H 
def Z58 (a0:Bs):Option (TRef×Int):=(Z42 a0).bind fun x3=>bif (!decide (x3.2.2=(0:Int))) then(some ((TRef.mk ([]:Bs) (Sl.nil:Sl Int)),x3.2.2)) else((Z60 x3.1 (0:Int)).bind fun x9=>guardO (!(!x9.2.2)) (subC ((x3.1.l.length:Nat):Int) (1:Int)) (0:Int) fun x12=>bif ((!x9.2.2)||(!decide (x9.2.1=x12))) then(some ((TRef.mk ([]:Bs) (Sl.nil:Sl Int)),(3:Int))) else(bif (decide ((24:Int)<((x9.1.FWraps.l.length:Nat):Int))) then(some ((TRef.mk ([]:Bs) (Sl.nil:Sl Int)),(5:Int))) else(some (x9.1,(0:Int)))))
theorem Z58_walk {a0:Bs}{r:TRef×Int}(hE:Z58 a0=some r) (H:Heap) :AC Tryz.prog 20 [.d (.str a0)] H fun v h'=>v=.tup [.agg (TRef.c r.1),.d (.int .i64 r.2)]/\h'=H:=by
 unfold Z58 at hE;refine AC.oW 42 [.cell 2 29,.tmp 3] Tryz.call20 Tryz.func20 ?_;refine seqR ?_;refine Sl ?_;refine S As (nil ?_);refine seqR (S Mv ?_);obtain⟨x3,gx3,hE⟩:=bO hE;refine Sc rfl rfl (Z42_walk gx3) ?_;refine S Mv (S EX (S EX (S EX (S As (S As (S As (nil ?_)))))));refine seqK fun K4 hK4=>?_;refine seqR (S Mv (S BI (nil ?_)));refine cE hE (fun hc6 hE=>?_) (fun hc6 hE=>?_)
 ·refine seqR (S BU (S Mv ?_));refine Sf ?_;refine S As (nil ?_);exact rt hE
 refine sk hK4 ?_;clear hK4 K4;refine seqR (S Mv ?_);obtain⟨x9,gx9,hE⟩:=bO hE;refine Sc rfl rfl (Z60_walk gx9) ?_;refine S Mv (S EX (S EX (S EX ?_)));refine Sl ?_;refine Sf ?_;refine S As (S As (nil ?_));refine freezeA 7 _ rfl (KA 2 (KA 4 (KA 8 (KA 9 Keeps.nil)))) ?_;refine seqK fun K10 hK10=>?_;refine seqR (S Mv (S NB (S Mv (G0 Mv (G0 Mv ?_)))));refine gC rfl rfl (fun hC=>ungdA (k:=30) rfl (lenM' (f:=Z2.c) (s:=x3.1) (TK rfl) rfl rfl rfl)) rfl ?_
 obtain⟨x12,gx12,hE⟩:=gO hE;refine gC rfl rfl (fun hC=>ungdA (k:=31) rfl (subM rfl rfl (gx12 hC))) rfl ?_;refine G2 29 32 rfl rfl BI ?_;refine S PO (nil ?_);refine cE hE (fun hc13 hE=>?_) (fun hc13 hE=>?_)
 ·refine seqR (S BU ?_);refine Sf ?_;refine S As (nil ?_);exact rt hE
 refine sk hK10 ?_;clear hK10 K10;refine seqK fun K15 hK15=>?_;refine seqR (S Fv (S Ld ?_));refine sLen (f:=(intE .i64)) (s:=x9.1.FWraps) (TK rfl) rfl rfl rfl rfl fun hL17=>?_;refine S BI (nil ?_);refine cE hE (fun hc18 hE=>?_) (fun hc18 hE=>?_)
 ·refine seqR (S BU ?_);refine Sf ?_;refine S As (nil ?_);exact rt hE
 refine sk hK15 ?_;clear hK15 K15;refine seqR (S Ld ?_);refine Sf ?_;refine S As (nil ?_);exact rt hE
def Z63_j8  :Option Bool:=some true
def Z63_l11 (a0:(Sl Int)) (a1:(Sl Int)) :Nat->Nat->Option Bool
 | 0,_=>none
 | n11+1,s5_12=>bif (decide (((s5_12:Nat):Int)<((a0.l.length:Nat):Int))) then((a0.l[s5_12]?).bind fun x19=>(a1.l[s5_12]?).bind fun x20=>bif (!decide (x19=x20)) then(some false) else((Z63_l11 a0 a1 n11) (s5_12+1))) else(Z63_j8   )
def Z63 (a0:(Sl Int)) (a1:(Sl Int)):Option Bool:=bif (!decide (((a0.l.length:Nat):Int)=((a1.l.length:Nat):Int))) then(some false) else(Z63_l11 a0 a1 (a0.l.length+1) 0)
theorem Z63_walk {a0 a1:Sl Int}{w0 w1:Option Nat}{r:Bool}(hE:Z63 a0 a1=some r) (H:Heap) :AC Tryz.prog 58 [.d (Sl.d 1 (intE .i64) w0 a0),.d (Sl.d 1 (intE .i64) w1 a1)] H fun v h'=>v=.a (.d (.bool r))/\h'=H:=by
 unfold Z63 at hE;refine AC.oW 26 [.tmp 4] Tryz.call58 Tryz.func58 ?_;refine seqR (S As (nil ?_));refine seqK fun K2 hK2=>?_;refine seqR (S Mv ?_);refine sLen (f:=(intE .i64)) (s:=a0) (TK rfl) rfl rfl rfl rfl fun hL4=>?_;refine S Mv ?_;refine sLen (f:=(intE .i64)) (s:=a1) (TK rfl) rfl rfl rfl rfl fun hL5=>?_;refine S BI (nil ?_);refine cE hE (fun hc6 hE=>?_) (fun hc6 hE=>?_)
 ·refine seqR (S As (nil ?_));exact rt hE
 refine sk hK2 ?_;clear hK2 K2;refine seqJH kN (fun(z:Unit)=>[]) (fun z=>H) (fun z=>Z63_j8 =some r) ?_ ?_
 ·intro K8 hK8;refine seqR (S As (nil ?_));refine block ?_;refine loopH (TA 0 (TA 1 kN)) (fun(z:Nat×Nat)=>[(5,.a (.d (.int .i64 ((z.2:Nat):Int))))]) (fun z=>H) (fun z=>z.1) (fun z=>Z63_l11 a0 a1 z.1 z.2=some r) ((a0.l.length+1),0) hE wA ?_;rintro ⟨n11,s5_12⟩ hE K11 hK11;try dsimp only at hE
  cases n11 with
  | zero=>cases hE
  | succ n11 =>
    rw [Z63_l11] at hE;refine seqK fun K13 hK13=>?_;refine seqR (S Mv (S Mv ?_));refine sLen (f:=(intE .i64)) (s:=a0) (TK rfl) rfl rfl rfl rfl fun hL15=>?_;refine S BI (nil ?_);refine cE hE (fun hc16 hE=>?_) (fun hc16 hE=>?_)
    ·try dsimp only at hc16
     have hf16:=oD hc16;refine sk hK13 ?_;clear hK13 K13;refine seqK fun K17 hK17=>?_;refine block ?_;refine AWp.seqD (Sd Mv (Sd Mv ?_));obtain⟨x19,gx19,hE⟩:=bO hE;refine Sd (ix (intE .i64) s5_12 gx19) ?_;refine Sd Ld (Sd Mv (Sd Mv ?_));obtain⟨x20,gx20,hE⟩:=bO hE;refine Sd (ix (intE .i64) s5_12 gx20) ?_;refine Sd Ld (Sd BI ?_);refine DOps.nil (by decide +kernel) ?_;refine cE hE (fun hc21 hE=>?_) (fun hc21 hE=>?_)
     ·refine seqR (S As (nil ?_));exact rt hE
     refine sk hK17 ?_;clear hK17 K17;refine region ?_;refine S Mv ?_;refine SI ?_;refine S As (nil ?_);exact hK11 _ (n11,(s5_12+1)) wA hE (nS _)
    refine AWp.exit ?_;exact hK8 _ () wA hE
 rintro _ hE;try dsimp only at hE
 unfold Z63_j8 at hE;refine seqR (S As (nil ?_));exact rt hE
end Go.Proofs

namespace Go.Proofs
open Go Go.Ab
open AOps Cert AWp Keeps KeepsT
variable {lou:Lou}
def Z62_j3  (s3_4:(Sl Int)):Option (Sl Int):=some s3_4
def Z62_j14 (s4_9:Nat) (k_next_7:(Sl Int)->Nat->Option (Sl Int)) (s3_15:(Sl Int)):Option (Sl Int):=k_next_7 s3_15 (s4_9+1)
def Z62_l7 (a0:TRef) :Nat->(Sl Int)->Nat->Option (Sl Int)
 | 0,_,_=>none
 | n7+1,s3_8,s4_9=>bif (decide (((s4_9:Nat):Int)<((a0.FWraps.l.length:Nat):Int))) then((a0.FWraps.l[s4_9]?).bind fun x17=>bif (!decide (x17=(1:Int))) then((a0.FWraps.l[s4_9]?).bind fun x19=>(appC 8 s3_8 (⟨false,[x19]⟩:Sl Int)).bind fun x20=>Z62_j14 s4_9 ((Z62_l7 a0 n7)) x20) else(Z62_j14 s4_9 ((Z62_l7 a0 n7)) s3_8)) else(Z62_j3   s3_8)
def Z62 (a0:TRef):Option (Sl Int):=Z62_l7 a0 (a0.FWraps.l.length+1) (Sl.nil:Sl Int) 0
theorem Z62_walk {a0:TRef}{r:Sl Int}(hE:Z62 a0=some r) (H:Heap) :AC Tryz.prog 59 [.agg (TRef.c a0)] H fun v h'=>v=.a (.d (Sl.d 1 (intE .i64) none r))/\h'=H:=by
 unfold Z62 at hE;refine AC.oW 27 [.tmp 2] Tryz.call59 Tryz.func59 ?_;refine AWp.tok 1 fun tk1 htk1=>?_;refine seqR (S BX ?_);refine s0 (assignNil (k':=1) rfl) rfl ?_;refine nil ?_;refine seqR (S As (nil ?_));refine AWp.nilTok 3 1 tk1 rfl hpG ?_;refine seqJH kN (fun(z:(Sl Int))=>[(3,.a (.d (Sl.d 1 (intE .i64) (some tk1) z)))]) (fun z=>(H.set tk1 (some (.tok 1 z.l.length)))) (fun z=>Z62_j3 z=some r) ?_ ?_
 ·intro K3 hK3;refine seqR (S As (nil ?_));refine block ?_;refine loopH (TA 1 kN) (fun(z:Nat×(Sl Int)×Nat)=>[(3,.a (.d (Sl.d 1 (intE .i64) (some tk1) z.2.1))),(4,.a (.d (.int .i64 ((z.2.2:Nat):Int))))]) (fun z=>(H.set tk1 (some (.tok 1 z.2.1.l.length)))) (fun z=>z.1) (fun z=>Z62_l7 a0 z.1 z.2.1 z.2.2=some r) ((a0.FWraps.l.length+1),(Sl.nil:Sl Int),0) hE wA ?_;rintro ⟨n7,s3_8,s4_9⟩ hE K7 hK7
  try dsimp only at hE
  cases n7 with
  | zero=>cases hE
  | succ n7 =>
    rw [Z62_l7] at hE;refine seqK fun K10 hK10=>?_;refine seqR (S Mv (S Fv (S Ld ?_)));refine sLen (f:=(intE .i64)) (s:=a0.FWraps) (TK rfl) rfl rfl rfl rfl fun hL12=>?_;refine S BI (nil ?_);refine cE hE (fun hc13 hE=>?_) (fun hc13 hE=>?_)
    ·try dsimp only at hc13
     have hf13:=oD hc13;refine sk hK10 ?_;clear hK10 K10;refine seqJH (TA 1 (TA 4 kN)) (fun(z:(Sl Int))=>[(3,.a (.d (Sl.d 1 (intE .i64) (some tk1) z)))]) (fun z=>(H.set tk1 (some (.tok 1 z.l.length)))) (fun z=>Z62_j14 s4_9 ((Z62_l7 a0 n7)) z=some r) ?_ ?_
     ·intro K14 hK14;refine block ?_;refine seqR (S Fv (S Ld (S Mv ?_)));obtain⟨x17,gx17,hE⟩:=bO hE;refine S (ix (intE .i64) s4_9 gx17) ?_;refine S Ld (S BI (nil ?_));refine cE hE (fun hc18 hE=>?_) (fun hc18 hE=>?_)
      ·refine region ?_;refine S Mv (S Fv (S Ld (S Mv ?_)));obtain⟨x19,gx19,hE⟩:=bO hE;refine S (ix (intE .i64) s4_9 gx19) ?_;refine S Ld (S BV ?_);obtain⟨x20,gx20,hE⟩:=bO hE;refine SH (am (intE .i64) (TK rfl) rfl (TK rfl) (TK rfl) gx20) ?_;refine hq (H.set tk1 (some (.tok 1 x20.l.length))) ?_;refine S As (nil ?_);exact hK14 _ x20 wA hE
      refine AWp.skip ?_;exact hK14 _ s3_8 wA hE
     rintro s3_15 hE;try dsimp only at hE
     unfold Z62_j14 at hE;refine region ?_;refine S Mv ?_;refine SI ?_;refine S As (nil ?_);exact hK7 _ (n7,s3_15,(s4_9+1)) wA hE (nS _)
    refine AWp.exit ?_;exact hK3 _ s3_8 wA hE
 rintro s3_4 hE;try dsimp only at hE
 unfold Z62_j3 at hE;refine seqR (S Mv (S As (nil ?_)));refine AWp.dropTok 2 rfl ?_;refine AWp.ret ?_;repeat (first|refine xBlock_ret ?_|refine xThen_ret ?_)
 obtain rfl:=oJ hE;refine retQ.retF H rfl ⟨rfl,rfl⟩ ?_
 first|exact Heap.sub_set htk1|(simp only [Heap.set_set]; exact Heap.sub_set htk1)
def Z59 (a0:TRef) (a1:TRef):Option Bool:=guardO (((a0.FName==a1.FName))) (Z62 a0) (Sl.nil:Sl Int) fun x3=>guardO (((a0.FName==a1.FName))) (Z62 a1) (Sl.nil:Sl Int) fun x4=>guardO (((a0.FName==a1.FName))) (Z63 x3 x4) false fun x5=>some (((a0.FName==a1.FName))&&x5)
theorem Z59_walk {a0 a1:TRef}{r:Bool}(hE:Z59 a0 a1=some r) (H:Heap) :AC Tryz.prog 36 [.agg (TRef.c a0),.agg (TRef.c a1)] H fun v h'=>v=.a (.d (.bool r))/\h'=H:=by
 unfold Z59 at hE;refine AC.oW 17 [.tmp 4] Tryz.call36 Tryz.func36 ?_;refine seqR (S BX (S BX (S As (nil ?_))));refine AWp.seqD (Sd Fv (Sd Ld (Sd Fv (Sd Ld (Sd BS (Sd Mv (G0d Ld ?_)))))));obtain⟨x3,gx3,hE⟩:=gO hE;refine Gc1d 11 rfl rfl rfl rfl rfl (fun hC=>Z62_walk (gx3 hC)) ?_;refine G0d Ld ?_;obtain⟨x4,gx4,hE⟩:=gO hE;refine Gc1d 13 rfl rfl rfl rfl rfl (fun hC=>Z62_walk (gx4 hC)) ?_;obtain⟨x5,gx5,hE⟩:=gO hE
 refine Gc2d 12 14 rfl rfl rfl rfl rfl rfl (fun hC=>Z63_walk (gx5 hC)) ?_;refine Sd PA (Sd As ?_);refine DOps.nil (by decide +kernel) ?_;exact rt hE
def Z61 (a0:TRef):Option TRef:=(partC a0.FWraps (some (1:Int)) none).bind fun x3=>(appC 8 (⟨false,[]⟩:Sl Int) x3).bind fun x4=>some (TRef.mk a0.FName x4)
theorem Z61_walk {a0 r:TRef}(hE:Z61 a0=some r) (H:Heap) :AC Tryz.prog 61 [.agg (TRef.c a0)] H fun v h'=>v=.a (.agg (TRef.c r))/\h'=H:=by
 unfold Z61 at hE;refine AC.oW 11 [.cell 2 29] Tryz.call61 Tryz.func61 ?_;refine seqR (S BX ?_);refine Sl ?_;refine nil ?_;refine AWp.seqD (Sd Fv (Sd Ld ?_));refine DOps.s0 (buildSliceF (TK rfl) rfl (TK rfl) rfl rfl rfl rfl rfl rfl) rfl ?_;refine Sd Fv (Sd Ld ?_);obtain⟨x3,gx3,hE⟩:=bO hE;refine DOps.s0 (partM (f:=(intE .i64)) (l:=(some (1:Int))) (r:=none) (TK rfl) rfl (TK rfl) rfl rfl rfl trivial gx3) rfl ?_
 obtain⟨x4,gx4,hE⟩:=bO hE;refine DOps.s0 (appFM (f:=(intE .i64)) (TK rfl) rfl (TK rfl) (TK rfl) ⟨_,rfl⟩ rfl rfl (by decide) rfl rfl rfl (by intro q h; cases h<;>decide) rfl rfl gx4) rfl ?_;refine Sd BU ?_;refine DOps.sLn (storeLFA (TK rfl) rfl rfl rfl rfl rfl) ?_;refine DOps.nil (by decide +kernel) ?_;exact rt hE
def Z57 (a0:TRef):Option TRef:=(Z54 a0).bind fun x4=>bif x4 then((Z61 a0).bind fun x7=>some x7) else((appC 8 (⟨false,[]⟩:Sl Int) a0.FWraps).bind fun x9=>some (TRef.mk a0.FName x9))
theorem Z57_walk {a0 r:TRef}(hE:Z57 a0=some r) (H:Heap) :AC Tryz.prog 62 [.agg (TRef.c a0)] H fun v h'=>v=.a (.agg (TRef.c r))/\h'=H:=by
 unfold Z57 at hE;refine AC.oW 14 [.cell 2 29] Tryz.call62 Tryz.func62 ?_;refine seqR (S BX ?_);refine Sl ?_;refine nil ?_;refine seqK fun K2 hK2=>?_;refine seqR (S Ld ?_);obtain⟨x4,gx4,hE⟩:=bO hE;refine Sc rfl rfl (Z54_walk gx4) ?_;refine nil ?_;refine cE hE (fun hc5 hE=>?_) (fun hc5 hE=>?_)
 ·refine seqR (S Ld ?_);obtain⟨x7,gx7,hE⟩:=bO hE;refine Sc rfl rfl (Z61_walk gx7) ?_;refine Sf ?_;refine nil ?_;exact rt hE
 refine sk hK2 ?_;clear hK2 K2;refine AWp.seqD (Sd Fv (Sd Ld ?_));refine DOps.s0 (buildSliceF (TK rfl) rfl (TK rfl) rfl rfl rfl rfl rfl rfl) rfl ?_;refine Sd Fv (Sd Ld ?_);obtain⟨x9,gx9,hE⟩:=bO hE;refine DOps.s0 (appFM (f:=(intE .i64)) (TK rfl) rfl (TK rfl) (TK rfl) ⟨_,rfl⟩ rfl rfl (by decide) rfl rfl rfl (by intro q h; cases h<;>decide) rfl rfl gx9) rfl ?_;refine Sd BU ?_;refine DOps.sLn (storeLFA (TK rfl) rfl rfl rfl rfl rfl) ?_
 refine DOps.nil (by decide +kernel) ?_;exact rt hE
def Z53 (a0:TRef):Option Bool:=(Z57 a0).bind fun x3=>guardO ((decide ((0:Int)<((x3.FWraps.l.length:Nat):Int)))) (x3.FWraps.l[0]?) (0:Int) fun x6=>some ((decide ((0:Int)<((x3.FWraps.l.length:Nat):Int)))&&(decide (x6=(2:Int))))
theorem Z53_walk {a0:TRef}{r:Bool}(hE:Z53 a0=some r) (H:Heap) :AC Tryz.prog 60 [.agg (TRef.c a0)] H fun v h'=>v=.a (.d (.bool r))/\h'=H:=by
 unfold Z53 at hE;refine AC.oW 17 [.tmp 2] Tryz.call60 Tryz.func60 ?_;refine seqR (S BX (S As (nil ?_)));refine seqR (S Ld ?_);obtain⟨x3,gx3,hE⟩:=bO hE;refine Sc rfl rfl (Z57_walk gx3) ?_;refine Sl ?_;refine Sf ?_;refine nil ?_;refine freezeA 3 _ rfl Keeps.nil ?_;refine seqR (S Fv (S Ld ?_));refine sLen (f:=(intE .i64)) (s:=x3.FWraps) (TK rfl) rfl rfl rfl rfl fun hL5=>?_;refine S BI (S Mv (G0 Fv ?_))
 refine G1 11 rfl Ld ?_;obtain⟨x6,gx6,hE⟩:=gO hE;refine gC rfl rfl (fun hC=>ungdA (k:=12) rfl (idxMn (f:=(intE .i64)) (n:=0) (TK rfl) rfl (TK rfl) rfl rfl rfl (gx6 hC))) rfl ?_;refine G1 13 rfl Ld ?_;refine G1 14 rfl BI ?_;refine S PA (S As (nil ?_));exact rt hE
def Z52 (a0:TRef):Option (TRef×Bool):=(Z53 a0).bind fun x4=>bif (!x4) then(some ((TRef.mk ([]:Bs) (Sl.nil:Sl Int)),false)) else((Z57 a0).bind fun x8=>(Z61 x8).bind fun x9=>some (x9,true))
theorem Z52_walk {a0:TRef}{r:TRef×Bool}(hE:Z52 a0=some r) (H:Heap) :AC Tryz.prog 38 [.agg (TRef.c a0)] H fun v h'=>v=.tup [.agg (TRef.c r.1),.d (.bool r.2)]/\h'=H:=by
 unfold Z52 at hE;refine AC.oW 11 [.cell 2 29,.tmp 3] Tryz.call38 Tryz.func38 ?_;refine seqR (S BX ?_);refine Sl ?_;refine S As (nil ?_);refine seqK fun K2 hK2=>?_;refine seqR (S Ld ?_);obtain⟨x4,gx4,hE⟩:=bO hE;refine Sc rfl rfl (Z53_walk gx4) ?_;refine S NB (nil ?_);refine cE hE (fun hc5 hE=>?_) (fun hc5 hE=>?_)
 ·refine seqR (S BU ?_);refine Sf ?_;refine S As (nil ?_);exact rt hE
 refine sk hK2 ?_;clear hK2 K2;refine seqR (S Ld ?_);obtain⟨x8,gx8,hE⟩:=bO hE;refine Sc rfl rfl (Z57_walk gx8) ?_;obtain⟨x9,gx9,hE⟩:=bO hE;refine Sc rfl rfl (Z61_walk gx9) ?_;refine Sf ?_;refine S As (nil ?_);exact rt hE
def Z51_n:Nat->TRef->TRef->Option Bool
 | 0,_,_=>none
 | n+1,a0,a1=>(Z59 a0 a1).bind fun x4=>guardO (!(!x4)) (Z54 a1) false fun x5=>guardO ((!(!x4)&&x5)) (Z54 a0) false fun x6=>bif ((!x4)||(x5&&(!x6))) then(some false) else((Z52 a0).bind fun x10=>(Z52 a1).bind fun x12=>guardO (!((!x10.2)||(!x12.2))) ((Z51_n n) x10.1 x12.1) false fun x14=>some (((!x10.2)||(!x12.2))||x14))
theorem Z51_step (n:Nat) (ih_21:∀{a0 a1:TRef}{r:Bool},Z51_n n a0 a1=some r->∀(H:Heap),AC Tryz.prog 21 [.agg (TRef.c a0),.agg (TRef.c a1)] H fun v h'=>v=.a (.d (.bool r))/\h'=H):∀{a0 a1:TRef}{r:Bool},Z51_n (n+1) a0 a1=some r->∀(H:Heap),AC Tryz.prog 21 [.agg (TRef.c a0),.agg (TRef.c a1)] H fun v h'=>v=.a (.d (.bool r))/\h'=H:=by
 intro a0 a1   r hE H ;rw [Z51_n] at hE;refine AC.oW 43 [.tmp 4] Tryz.call21 Tryz.func21 ?_;refine seqR (S BX (S BX (S As (nil ?_))));refine seqK fun K2 hK2=>?_;refine seqR (S Ld (S Ld ?_));obtain⟨x4,gx4,hE⟩:=bO hE;refine Sc rfl rfl (Z59_walk gx4) ?_;refine S NB (S Mv (G0 Ld ?_));obtain⟨x5,gx5,hE⟩:=gO hE;refine Gc1 14 rfl rfl rfl rfl rfl (fun hC=>Z54_walk (gx5 hC)) ?_;refine G1 15 rfl Mv ?_;refine G0 Ld ?_
 obtain⟨x6,gx6,hE⟩:=gO hE;refine Gc1 17 rfl rfl rfl rfl rfl (fun hC=>Z54_walk (gx6 hC)) ?_;refine G1 18 rfl NB ?_;refine gC rfl rfl (fun hC=>ungdA (k:=16) rfl (pickAndA rfl rfl rfl)) rfl ?_;refine S PO (nil ?_);refine cE hE (fun hc7 hE=>?_) (fun hc7 hE=>?_)
 ·refine seqR (S As (nil ?_));exact rt hE
 refine sk hK2 ?_;clear hK2 K2;refine seqR (S Ld ?_);obtain⟨x10,gx10,hE⟩:=bO hE;refine Sc rfl rfl (Z52_walk gx10) ?_;refine S Mv (S EX (S EX ?_));refine Sl ?_;refine Sf ?_;refine S As (nil ?_);refine freezeA 5 _ rfl (KA 3 (KA 6 Keeps.nil)) ?_;refine seqR (S Ld ?_);obtain⟨x12,gx12,hE⟩:=bO hE;refine Sc rfl rfl (Z52_walk gx12) ?_;refine S Mv (S EX (S EX ?_));refine Sl ?_;refine Sf ?_;refine S As (nil ?_)
 refine freezeA 7 _ rfl (KA 5 (KA 6 (KA 8 Keeps.nil))) ?_;refine seqR (S Mv (S NB (S Mv (G0 Mv ?_))));refine G1 35 rfl NB ?_;refine S PO (S Mv (G0 Ld (G0 Ld ?_)));obtain⟨x14,gx14,hE⟩:=gO hE;refine Gc2 39 40 rfl rfl rfl rfl rfl rfl (fun hC=>ih_21 (gx14 hC)) ?_;refine S PO (S As (nil ?_));exact rt hE
theorem Z51_all:∀(n:Nat),(∀{a0 a1:TRef}{r:Bool},Z51_n n a0 a1=some r->∀(H:Heap),AC Tryz.prog 21 [.agg (TRef.c a0),.agg (TRef.c a1)] H fun v h'=>v=.a (.d (.bool r))/\h'=H)
 | 0=>fun hE=>by first|cases hE|(rw [Z51_n] at hE; cases hE)
 | n+1=>Z51_step n (Z51_all n)
def Z51 (a0:TRef) (a1:TRef):Option Bool:=Z51_n F0 a0 a1
theorem Z51_walk {a0 a1:TRef}{r:Bool}(hE:Z51 a0 a1=some r) (H:Heap) :AC Tryz.prog 21 [.agg (TRef.c a0),.agg (TRef.c a1)] H fun v h'=>v=.a (.d (.bool r))/\h'=H:=(Z51_all F0) hE H 
def Z66_j2  :Option Bool:=some false
def Z66_j14 (a0:Z3)  (s20_15:Bool):Option Bool:=bif s20_15 then((Z58 a0.FFrom).bind fun x18=>(Z58 a0.FTo).bind fun x20=>guardO (((decide (x18.2=(0:Int)))&&(decide (x20.2=(0:Int))))) (Z51 x18.1 x20.1) false fun x22=>some (((decide (x18.2=(0:Int)))&&(decide (x20.2=(0:Int))))&&x22)) else(Z66_j2   )
def Z66_j9 (a0:Z3)  (s14_10:Bool):Option Bool:=bif s14_10 then((Z69 a0.FTo).bind fun x13=>some x13) else(bif (decide (a0.FKind=(9:Int))) then(Z66_j14 a0  (decide (a0.FKind=(9:Int)))) else(Z66_j14 a0  (decide (a0.FKind=(15:Int)))))
def Z66_j5 (a0:Z3)  (s9_6:Bool):Option Bool:=bif s9_6 then(some true) else(bif (decide (a0.FKind=(8:Int))) then(Z66_j9 a0  (decide (a0.FKind=(8:Int)))) else(Z66_j9 a0  (decide (a0.FKind=(14:Int)))))
def Z66 (a0:Z3):Option Bool:=bif (decide (a0.FKind=(2:Int))) then(Z66_j5 a0  (decide (a0.FKind=(2:Int)))) else(bif (decide (a0.FKind=(5:Int))) then(Z66_j5 a0  (decide (a0.FKind=(5:Int)))) else(bif (decide (a0.FKind=(12:Int))) then(Z66_j5 a0  (decide (a0.FKind=(12:Int)))) else(Z66_j5 a0  (decide (a0.FKind=(18:Int))))))
theorem Z66_walk {a0:Z3}{r:Bool}(hE:Z66 a0=some r) (H:Heap) :AC Tryz.prog 8 [.agg (Z3.c a0)] H fun v h'=>v=.a (.d (.bool r))/\h'=H:=by
 unfold Z66 at hE;refine AC.oW 46 [.tmp 2] Tryz.call8 Tryz.func8 ?_;refine seqR (S BX (S As (nil ?_)));refine seqJH kN (fun(z:Unit)=>[]) (fun z=>H) (fun z=>Z66_j2 =some r) ?_ ?_
 ·intro K2 hK2;refine seqR (S Fv (S Ld (nil ?_)));refine block ?_;refine seqJH (TA 1 (TA 8 kN)) (fun(z:Bool)=>[(9,.a (.d (.bool z)))]) (fun z=>H) (fun z=>Z66_j5 a0 z=some r) ?_ ?_
  ·intro K5 hK5;refine seqR (S BI (S As (nil ?_)));refine cE hE (fun hc28 hE=>?_) (fun hc28 hE=>?_)
   ·refine AWp.skip ?_;exact hK5 _ (decide (a0.FKind=(2:Int))) wA hE
   refine seqR (S BI (S As (nil ?_)));refine cE hE (fun hc30 hE=>?_) (fun hc30 hE=>?_)
   ·refine AWp.skip ?_;exact hK5 _ (decide (a0.FKind=(5:Int))) wA hE
   refine seqR (S BI (S As (nil ?_)));refine cE hE (fun hc32 hE=>?_) (fun hc32 hE=>?_)
   ·refine AWp.skip ?_;exact hK5 _ (decide (a0.FKind=(12:Int))) wA hE
   refine region ?_;refine S BI (S As (nil ?_));exact hK5 _ (decide (a0.FKind=(18:Int))) wA hE
  rintro s9_6 hE;try dsimp only at hE
  unfold Z66_j5 at hE;refine cE hE (fun hc7 hE=>?_) (fun hc7 hE=>?_)
  ·refine seqR (S As (nil ?_));exact rt hE
  refine seqJH (TA 1 (TA 8 kN)) (fun(z:Bool)=>[(14,.a (.d (.bool z)))]) (fun z=>H) (fun z=>Z66_j9 a0 z=some r) ?_ ?_
  ·intro K9 hK9;refine seqR (S BI (S As (nil ?_)));refine cE hE (fun hc26 hE=>?_) (fun hc26 hE=>?_)
   ·refine AWp.skip ?_;exact hK9 _ (decide (a0.FKind=(8:Int))) wA hE
   refine region ?_;refine S BI (S As (nil ?_));exact hK9 _ (decide (a0.FKind=(14:Int))) wA hE
  rintro s14_10 hE;try dsimp only at hE
  unfold Z66_j9 at hE;refine cE hE (fun hc11 hE=>?_) (fun hc11 hE=>?_)
  ·refine seqR (S Fv (S Ld ?_));obtain⟨x13,gx13,hE⟩:=bO hE;refine Sc rfl rfl (Z69_walk gx13) ?_;refine S As (nil ?_);exact rt hE
  refine seqJH (TA 1 kN) (fun(z:Bool)=>[(20,.a (.d (.bool z)))]) (fun z=>H) (fun z=>Z66_j14 a0 z=some r) ?_ ?_
  ·intro K14 hK14;refine seqR (S BI (S As (nil ?_)));refine cE hE (fun hc24 hE=>?_) (fun hc24 hE=>?_)
   ·refine AWp.skip ?_;exact hK14 _ (decide (a0.FKind=(9:Int))) wA hE
   refine region ?_;refine S BI (S As (nil ?_));exact hK14 _ (decide (a0.FKind=(15:Int))) wA hE
  rintro s20_15 hE;try dsimp only at hE
  unfold Z66_j14 at hE;refine cE hE (fun hc16 hE=>?_) (fun hc16 hE=>?_)
  ·refine seqR (S Fv (S Ld ?_));obtain⟨x18,gx18,hE⟩:=bO hE;refine Sc rfl rfl (Z58_walk gx18) ?_;refine S Mv (S EX (S EX ?_));refine Sl ?_;refine Sf ?_;refine S As (nil ?_);refine freezeA 3 _ rfl (KA 1 (KA 4 Keeps.nil)) ?_;refine seqR (S Fv (S Ld ?_));obtain⟨x20,gx20,hE⟩:=bO hE;refine Sc rfl rfl (Z58_walk gx20) ?_;refine S Mv (S EX (S EX ?_));refine Sl ?_;refine Sf ?_;refine S As (nil ?_);refine freezeA 5 _ rfl (KA 3 (KA 4 (KA 6 Keeps.nil))) ?_
   refine seqR (S Mv (S BI (S Mv (G0 Mv ?_))));refine G1 38 rfl BI ?_;refine S PA (S Mv (G0 Ld (G0 Ld ?_)));obtain⟨x22,gx22,hE⟩:=gO hE;refine Gc2 42 43 rfl rfl rfl rfl rfl rfl (fun hC=>Z51_walk (gx22 hC)) ?_;refine S PA (S As (nil ?_));exact rt hE
  refine AWp.skip ?_;exact hK2 _ () wA hE
 rintro _ hE;try dsimp only at hE
 unfold Z66_j2 at hE;refine seqR (S As (nil ?_));exact rt hE
section
variable [IsLoud lou]
def Z31 (a0:Z3):Option Bool:=bif ((decide ((2000:Int)<((a0.FFrom.length:Nat):Int)))||(decide ((2000:Int)<((a0.FTo.length:Nat):Int)))) then((Z32 ).bind fun x7=>some x7) else((Z11 a0).bind fun x9=>(Z67 a0).bind fun x10=>guardO (((x9==x10))) (Z9 a0) false fun x11=>guardO (((x9==x10))) (Z66 a0) false fun x12=>guardO ((((x9==x10))&&((x11==x12)))) (Z32 ) false fun x13=>some ((((x9==x10))&&((x11==x12)))&&x13))
theorem Z31_walk {a0:Z3}{oT oE oM:Ab.Obj}{gT gE gM:Nat}{r:Bool}(hE:Z31 a0=some r) (H:Heap) (hgT:H gT=some oT) (hoT:IsTab Tryz.prog oT) (hgE:H gE=some oE) (hoE:IsErr Tryz.prog oE) (hgM:H gM=some oM) (hoM:IsMax Tryz.prog oM):AC Tryz.prog 3 [.agg (Z3.c a0)] H fun v h'=>v=.a (.d (.bool r))/\h'=H:=by
 unfold Z31 at hE;refine AC.oW 29 [.tmp 2] Tryz.call3 Tryz.func3 ?_;refine seqR (S BX (S As (nil ?_)));refine seqK fun K2 hK2=>?_;refine seqR (S Fv (S Ld ?_));refine sLenS (TK rfl) rfl rfl rfl rfl fun hL4=>?_;refine S BI (S Mv (G0 Fv ?_));refine G1 8 rfl Ld ?_;refine gC rfl rfl (fun hC=>ungdA (k:=9) rfl (lenS (TK rfl) rfl rfl rfl)) rfl ?_;refine G1 10 rfl BI ?_;refine S PO (nil ?_);refine cE hE (fun hc5 hE=>?_) (fun hc5 hE=>?_)
 ·refine seqR ?_;obtain⟨x7,gx7,hE⟩:=bO hE;refine s0 (callR rfl rfl (Z32_walk (gT:=gT) (oT:=oT) (gE:=gE) (oE:=oE) (gM:=gM) (oM:=oM) gx7 _ hpG (by assumption) hpG (by assumption) hpG (by assumption))) rfl ?_;refine S As (nil ?_);exact rt hE
 refine sk hK2 ?_;clear hK2 K2;refine AWp.seqD (Sd Ld ?_);obtain⟨x9,gx9,hE⟩:=bO hE;refine DOps.s0 (callR rfl rfl (Z11_walk (gT:=gT) (oT:=oT) gx9 _ hpG (by assumption))) rfl ?_;refine Sd Ld ?_;obtain⟨x10,gx10,hE⟩:=bO hE;refine Scd rfl rfl (Z67_walk gx10) ?_;refine Sd BS (Sd Mv (G0d Ld ?_));obtain⟨x11,gx11,hE⟩:=gO hE;refine DOps.gC rfl rfl (fun hC=>ungdA (k:=20) rfl (callR rfl rfl (Z9_walk (gE:=gE) (oE:=oE) (gM:=gM) (oM:=oM) (gx11 hC) _ hpG (by assumption) hpG (by assumption)))) rfl ?_
 refine G0d Ld ?_;obtain⟨x12,gx12,hE⟩:=gO hE;refine Gc1d 22 rfl rfl rfl rfl rfl (fun hC=>Z66_walk (gx12 hC)) ?_;refine DOps.gC rfl rfl (fun hC=>ungdA (k:=21) rfl (ungdA (k:=23) rfl (eqB (TK rfl) rfl rfl rfl))) rfl ?_;refine Sd PA (Sd Mv ?_);obtain⟨x13,gx13,hE⟩:=gO hE;refine DOps.gC rfl rfl (fun hC=>callR rfl rfl (Z32_walk (gT:=gT) (oT:=oT) (gE:=gE) (oE:=oE) (gM:=gM) (oM:=oM) (gx13 hC) _ hpG (by assumption) hpG (by assumption) hpG (by assumption))) rfl ?_
 refine Sd PA (Sd As ?_);refine DOps.nil (by decide +kernel) ?_;exact rt hE
end
end Go.Proofs

namespace Go.Proofs
open Go Go.Ab
def Z99_q (a0:Int):Option Bs:=(Z84_q a0).bind fun x3=>some x3
theorem Z99_eq (a0:Int):Z99 a0=Z99_q a0:=by
 unfold Z99 Z99_q;refine Qs ?_;refine Q.bindO (Z84_eq _) fun x3=>?_;all_goals rfl
def Z25_q (a0:Int):Option Bs:=bif ((decide (a0<(1:Int)))||(decide ((18:Int)<a0))) then((Z99_q a0).bind fun x7=>(catC ([67,104,97,110,103,101,32]:Bs) x7).bind fun x8=>some x8) else((idxC ([([]:Bs),([84,121,112,101,71,111,110,101]:Bs),([84,121,112,101,78,101,119]:Bs),([84,121,112,101,75,105,110,100]:Bs),([70,105,101,108,100,71,111,110,101]:Bs),([70,105,101,108,100,78,101,119]:Bs),([70,105,101,108,100,84,121,112,101]:Bs),([65,114,103,71,111,110,101]:Bs),([65,114,103,78,101,119]:Bs),([65,114,103,84,121,112,101]:Bs),([65,114,103,68,101,102,97,117,108,116]:Bs),([77,101,109,98,101,114,71,111,110,101]:Bs),([77,101,109,98,101,114,78,101,119]:Bs),([73,110,112,117,116,71,111,110,101]:Bs),([73,110,112,117,116,78,101,119]:Bs),([73,110,112,117,116,84,121,112,101]:Bs),([73,110,112,117,116,68,101,102,97,117,108,116]:Bs),([70,97,99,101,71,111,110,101]:Bs),([70,97,99,101,78,101,119]:Bs)]:List Bs) a0).bind fun x10=>some x10)
theorem Z25_eq (a0:Int):Z25 a0=Z25_q a0:=by
 unfold Z25 Z25_q;refine Qs ?_;refine Q.condO ?_ ?_
 ·refine Q.bindO (Z99_eq _) fun x7=>?_;refine Q.bindO rfl fun x8=>?_;all_goals rfl
 refine Q.bindO rfl fun x10=>?_;all_goals rfl
def Z24_q (a0:Bs):Bs:=bif ((a0==([]:Bs))) then(([110,111,110,101]:Bs)) else(a0)
theorem Z24_eq (a0:Bs):Z24 a0=some (Z24_q a0):=by
 unfold Z24 Z24_q;refine Q.condP ?_ ?_
 ·all_goals rfl
 all_goals rfl
def Z11_q (a0:Z3):Option Bs:=(Z25_q a0.FKind).bind fun x3=>(catC x3 ([32]:Bs)).bind fun x4=>(catC x4 a0.FType).bind fun x5=>Option.bind (bif (!(a0.FField==([]:Bs))) then((catC ([46]:Bs) a0.FField).bind fun x28=>(catC x5 x28).bind fun x29=>some x29) else(some x5)) fun s3_7=>Option.bind (bif (!(a0.FArg==([]:Bs))) then((catC ([40]:Bs) a0.FArg).bind fun x23=>(catC x23 ([41]:Bs)).bind fun x24=>(catC s3_7 x24).bind fun x25=>some x25) else(some s3_7)) fun s3_9=>Option.bind (bif ((!(a0.FFrom==([]:Bs)))||(!(a0.FTo==([]:Bs)))) then(on (Z24_q a0.FFrom) fun x15=>(catC ([58,32]:Bs) x15).bind fun x16=>(catC x16 ([32,45,62,32]:Bs)).bind fun x17=>on (Z24_q a0.FTo) fun x18=>(catC x17 x18).bind fun x19=>(catC s3_9 x19).bind fun x20=>some x20) else(some s3_9)) fun s3_11=>some s3_11
theorem Z11_eq (a0:Z3):Z11 a0=Z11_q a0:=by
 unfold Z11 Z11_q;refine Qs ?_;refine Q.bindO (Z25_eq _) fun x3=>?_;refine Q.bindO rfl fun x4=>?_;refine Q.bindO rfl fun x5=>?_;refine Q.wrapOO fun Kj6 hKj6=>?_;have hj6:∀(s3_7:Bs),Z11_j6 a0 s3_7=Kj6 s3_7:=by
  intro s3_7;refine Qe (hKj6 _) ?_;unfold Z11_j6;refine Q.wrapOO fun Kj8 hKj8=>?_;have hj8:∀(s3_9:Bs),Z11_j8 a0 s3_9=Kj8 s3_9:=by
   intro s3_9;refine Qe (hKj8 _) ?_;unfold Z11_j8;refine Q.wrapOO fun Kj10 hKj10=>?_;have hj10:∀(s3_11:Bs),Z11_j10  s3_11=Kj10 s3_11:=by
    intro s3_11;refine Qe (hKj10 _) ?_;unfold Z11_j10;all_goals rfl
   refine Q.condO ?_ ?_
   ·refine Q.bindPO (Z24_eq _) fun x15 hx_x15=>?_;refine Q.bindO rfl fun x16=>?_;refine Q.bindO rfl fun x17=>?_;refine Q.bindPO (Z24_eq _) fun x18 hx_x18=>?_;refine Q.bindO rfl fun x19=>?_;refine Q.bindO rfl fun x20=>?_;all_goals exact hj10 _
   all_goals exact hj10 _
  refine Q.condO ?_ ?_
  ·refine Q.bindO rfl fun x23=>?_;refine Q.bindO rfl fun x24=>?_;refine Q.bindO rfl fun x25=>?_;all_goals exact hj8 _
  all_goals exact hj8 _
 refine Q.condO ?_ ?_
 ·refine Q.bindO rfl fun x28=>?_;refine Q.bindO rfl fun x29=>?_;all_goals exact hj6 _
 all_goals exact hj6 _
def Z29_q (a0:Bs) (a1:Bs):Option Bool:=guardO ((decide (((a1.length:Nat):Int)<=((a0.length:Nat):Int)))) (subC ((a0.length:Nat):Int) ((a1.length:Nat):Int)) (0:Int) fun x5=>guardO ((decide (((a1.length:Nat):Int)<=((a0.length:Nat):Int)))) (cutC a0 (some x5) none) ([]:Bs) fun x6=>some ((decide (((a1.length:Nat):Int)<=((a0.length:Nat):Int)))&&((x6==a1)))
theorem Z29_eq (a0:Bs) (a1:Bs):Z29 a0 a1=Z29_q a0 a1:=by
 unfold Z29 Z29_q;refine Qs ?_;refine Q.guardOO rfl fun x5=>?_;refine Q.guardOO rfl fun x6=>?_;all_goals rfl
def Z93_q (a0:Bs) (a1:Bs):Option Bool:=(Z29_q a0 a1).bind fun x3=>some x3
theorem Z93_eq (a0:Bs) (a1:Bs):Z93 a0 a1=Z93_q a0 a1:=by
 unfold Z93 Z93_q;refine Qs ?_;refine Q.bindO (Z29_eq _ _) fun x3=>?_;all_goals rfl
def Z28_q (a0:Bs) (a1:Bs):Bool:=on (bif (decide (((a1.length:Nat):Int)<=((a0.length:Nat):Int))) then(List.take (a1.length) a0) else([]:Bs)) fun x5=>((decide (((a1.length:Nat):Int)<=((a0.length:Nat):Int)))&&((x5==a1)))
theorem Z28_eq (a0:Bs) (a1:Bs):Z28 a0 a1=some (Z28_q a0 a1):=by
 unfold Z28 Z28_q;refine Q.guardT (fun hc=>Q.cutC_take (by simp at hc; omega)) fun x5 hx_x5=>?_;all_goals rfl
def Z92_q (a0:Bs) (a1:Bs):Bool:=on (Z28_q a0 a1) fun x3=>x3
theorem Z92_eq (a0:Bs) (a1:Bs):Z92 a0 a1=some (Z92_q a0 a1):=by
 unfold Z92 Z92_q;refine Q.bindP (Z28_eq _ _) fun x3 hx_x3=>?_;all_goals rfl
def Z30_q (a0:Bs) (a1:Bs):Option Bs:=on (Z28_q a0 a1) fun x4=>bif x4 then((cutC a0 (some ((a1.length:Nat):Int)) none).bind fun x8=>some x8) else(some a0)
theorem Z30_eq (a0:Bs) (a1:Bs):Z30 a0 a1=Z30_q a0 a1:=by
 unfold Z30 Z30_q;refine Qs ?_;refine Q.bindPO (Z28_eq _ _) fun x4 hx_x4=>?_;refine Q.condO ?_ ?_
 ·refine Q.bindO rfl fun x8=>?_;all_goals rfl
 all_goals rfl
def Z98_q (a0:Bs) (a1:Bs):Option Bs:=(Z30_q a0 a1).bind fun x3=>some x3
theorem Z98_eq (a0:Bs) (a1:Bs):Z98 a0 a1=Z98_q a0 a1:=by
 unfold Z98 Z98_q;refine Qs ?_;refine Q.bindO (Z30_eq _ _) fun x3=>?_;all_goals rfl
def Z100_q19 :List UInt8->Unit ⊕ ((Int×Int))
 | []=>Sum.inl ()
 | h19::r19=>on (h19) fun x27=>on (bif !(decide (((x27.toNat:Nat):Int)<(48:Int))) then h19 else(0:UInt8)) fun x28=>bif ((decide (((x27.toNat:Nat):Int)<(48:Int)))||(decide ((57:Int)<((x28.toNat:Nat):Int)))) then(Sum.inr ((0:Int),(3:Int))) else(Z100_q19  (r19) )
theorem Z100_l19_qe {a0:Bs}{x3:Bs}  (Kb19:(Unit ⊕ ((Int×Int)))->Option (Int×Int)) (hend:∀(n19:Nat) (s29_20:Nat),Z100_j9 a0  =Kb19 (Sum.inl ())) (hret:∀e:(Int×Int),some e=Kb19 (Sum.inr e)):∀(n19:Nat) (s29_20:Nat),(0<n19/\x3.length<s29_20+n19)->Z100_l19 a0 x3 n19 s29_20=Kb19 (Z100_q19  (x3.drop s29_20) ):=by
 intro n19;induction n19 with
 | zero=>intro s29_20 hn; exact absurd hn.1 (by omega)
 | succ n19 ih19 =>
  intro s29_20 hn;rw [Z100_l19];by_cases hlt:s29_20<x3.length
  ·obtain⟨h19,hh19⟩:=Qa hlt;rw [Q.drop_of hh19,Z100_q19];refine QT hlt ?_;refine Q.bindP hh19 fun x27 hx_x27=>?_;refine Q.guardP hh19 fun x28 hx_x28=>?_;refine Q.condP ?_ ?_
   ·all_goals exact hret _
   all_goals exact ih19 _ ⟨by omega,by omega⟩
  rw [dL (by omega),Z100_q19];refine QF hlt ?_;exact hend n19 s29_20
def Z100_q (a0:Bs):Option (Int×Int):=(Z98_q a0 ([45]:Bs)).bind fun x3=>guardO (!((x3==([]:Bs)))) (x3[0]?) (0:UInt8) fun x6=>bif (((x3==([]:Bs)))||((decide (((x6.toNat:Nat):Int)=(48:Int)))&&((decide ((1:Int)<((x3.length:Nat):Int)))||(decide ((1:Int)<((a0.length:Nat):Int)))))) then(some ((0:Int),(3:Int))) else(on (Z100_q19  x3 ) fun o19=>match o19 with|Sum.inl _=>(on (()) fun _=>(Z83_q a0).bind fun x11=>bif x11.2 then(some ((0:Int),(4:Int))) else(some (x11.1,(0:Int))))|Sum.inr e19=>(some e19))
theorem Z100_eq (a0:Bs):Z100 a0=Z100_q a0:=by
 unfold Z100 Z100_q;refine Qs ?_;refine Q.bindO (Z98_eq _ _) fun x3=>?_;refine Q.guardOO rfl fun x6=>?_;refine Q.condO ?_ ?_
 ·all_goals rfl
 refine Q.wrapPO fun Kb19 hKb19=>?_;refine Z100_l19_qe  Kb19 ?_ ?_ _ _ ⟨Nat.succ_pos _,by omega⟩
 ·intro n19 s29_20;refine Qe (hKb19 _) ?_;try dsimp only
  refine Q.wrapPO fun Kj9 hKj9=>?_;have hj9:Z100_j9 a0 =Kj9 ():=by
   refine Qe (hKj9 _) ?_;unfold Z100_j9;refine Q.bindO (Z83_eq _) fun x11=>?_;refine Q.condO ?_ ?_
   ·all_goals rfl
   all_goals rfl
  all_goals exact hj9
 intro e19;refine Qe (hKb19 _) ?_;try dsimp only
 all_goals rfl
def Z115_q (a0:Bs):Option (TRef×Int):=Z115 a0
theorem Z115_eq (a0:Bs):Z115 a0=Z115_q a0:=rfl
def Z80_q12 (a1:(Sl Int)):List Int->Nat->Option (Unit ⊕ Bool)
 | [],s13_13=>some (Sum.inl ())
 | h12::r12,s13_13=>on (h12) fun x20=>(a1.l[s13_13]?).bind fun x21=>bif (!decide (x20=x21)) then(some (Sum.inr false)) else(Z80_q12 a1 (r12) (s13_13+1) )
theorem Z80_l12_qe {a0:(Sl Int)}{a1:(Sl Int)}  (Kb12:(Unit ⊕ Bool)->Option Bool) (hend:∀(n12:Nat) (s13_13:Nat),Z80_j8   =Kb12 (Sum.inl ())) (hret:∀e:Bool,some e=Kb12 (Sum.inr e)):∀(n12:Nat) (s13_13:Nat),(0<n12/\a0.l.length<s13_13+n12)->Z80_l12 a0 a1 n12 s13_13=Option.bind (Z80_q12 a1 (a0.l.drop s13_13) s13_13 ) Kb12:=by
 intro n12;induction n12 with
 | zero=>intro s13_13 hn; exact absurd hn.1 (by omega)
 | succ n12 ih12 =>
  intro s13_13 hn;rw [Z80_l12];by_cases hlt:s13_13<a0.l.length
  ·obtain⟨h12,hh12⟩:=Qa hlt;rw [Q.drop_of hh12,Z80_q12];refine QT hlt ?_;refine Q.bindPO hh12 fun x20 hx_x20=>?_;refine Q.bindO rfl fun x21=>?_;refine Q.condO ?_ ?_
   ·all_goals exact hret _
   all_goals exact ih12 _ ⟨by omega,by omega⟩
  rw [dL (by omega),Z80_q12];refine QF hlt ?_;exact hend n12 s13_13
def Z80_q (a0:(Sl Int)) (a1:(Sl Int)):Option Bool:=bif (!decide (((a0.l.length:Nat):Int)=((a1.l.length:Nat):Int))) then(some false) else(Option.bind (Z80_q12 a1 a0.l 0 ) fun o12=>match o12 with|Sum.inl _=>(on (()) fun _=>some true)|Sum.inr e12=>(some e12))
theorem Z80_eq (a0:(Sl Int)) (a1:(Sl Int)):Z80 a0 a1=Z80_q a0 a1:=by
 unfold Z80 Z80_q;refine Qs ?_;refine Q.condO ?_ ?_
 ·all_goals rfl
 refine Q.wrapOO fun Kb12 hKb12=>?_;refine Z80_l12_qe  Kb12 ?_ ?_ _ _ ⟨Nat.succ_pos _,by omega⟩
 ·intro n12 s13_13;refine Qe (hKb12 _) ?_;try dsimp only
  refine Q.wrapPO fun Kj8 hKj8=>?_;have hj8:Z80_j8  =Kj8 ():=by
   refine Qe (hKj8 _) ?_;unfold Z80_j8;all_goals rfl
  all_goals exact hj8
 intro e12;refine Qe (hKb12 _) ?_;try dsimp only
 all_goals rfl
def Z75_q (a0:(Sl Int)):Option (Sl Int):=bif a0.nl then(some (Sl.nil:Sl Int)) else((appC 8 (⟨false,[]⟩:Sl Int) a0).bind fun x7=>some x7)
theorem Z75_eq (a0:(Sl Int)):Z75 a0=Z75_q a0:=by
 unfold Z75 Z75_q;refine Qs ?_;refine Q.condO ?_ ?_
 ·all_goals rfl
 refine Q.bindO rfl fun x7=>?_;all_goals rfl
def Z120_q (a0:(Sl Int)):Option (Sl Int):=(Z75_q a0).bind fun x3=>(some (delL Z121 x3)).bind fun x4=>some x4
theorem Z120_eq (a0:(Sl Int)):Z120 a0=Z120_q a0:=by
 unfold Z120 Z120_q;refine Qs ?_;refine Q.bindO (Z75_eq _) fun x3=>?_;refine Q.bindO rfl fun x4=>?_;all_goals rfl
def Z118_q (a0:TRef) (a1:TRef):Option Bool:=guardO (((a0.FName==a1.FName))) (Z120_q a0.FWraps) (Sl.nil:Sl Int) fun x3=>guardO (((a0.FName==a1.FName))) (Z120_q a1.FWraps) (Sl.nil:Sl Int) fun x4=>guardO (((a0.FName==a1.FName))) (Z80_q x3 x4) false fun x5=>some (((a0.FName==a1.FName))&&x5)
theorem Z118_eq (a0:TRef) (a1:TRef):Z118 a0 a1=Z118_q a0 a1:=by
 unfold Z118 Z118_q;refine Qs ?_;refine Q.guardOO (Z120_eq _) fun x3=>?_;refine Q.guardOO (Z120_eq _) fun x4=>?_;refine Q.guardOO (Z80_eq _ _) fun x5=>?_;all_goals rfl
def Z113_q (a0:TRef):Bool:=on (bif (decide ((0:Int)<((a0.FWraps.l.length:Nat):Int))) then((a0.FWraps.l)[0]?.getD (0:Int)) else(0:Int)) fun x4=>((decide ((0:Int)<((a0.FWraps.l.length:Nat):Int)))&&(decide (x4=(1:Int))))
theorem Z113_eq (a0:TRef):Z113 a0=some (Z113_q a0):=by
 unfold Z113 Z113_q;refine Q.guardT (fun hc=>Q.getD_some (by simp at hc; omega)) fun x4 hx_x4=>?_;all_goals rfl
def Z114_q (a0:TRef):Option TRef:=on (Z113_q a0) fun x8=>Option.bind (bif x8 then((partC a0.FWraps (some (1:Int)) none).bind fun x10=>some x10) else(some a0.FWraps)) fun s3_4=>(Z75_q s3_4).bind fun x6=>some (TRef.mk a0.FName x6)
theorem Z114_eq (a0:TRef):Z114 a0=Z114_q a0:=by
 unfold Z114 Z114_q;refine Qs ?_;refine Q.bindPO (Z113_eq _) fun x8 hx_x8=>?_;refine Q.wrapOO fun Kj3 hKj3=>?_;have hj3:∀(s3_4:(Sl Int)),Z114_j3 a0 s3_4=Kj3 s3_4:=by
  intro s3_4;refine Qe (hKj3 _) ?_;unfold Z114_j3;refine Q.bindO (Z75_eq _) fun x6=>?_;all_goals rfl
 refine Q.condO ?_ ?_
 ·refine Q.bindO rfl fun x10=>?_;all_goals exact hj3 _
 all_goals exact hj3 _
def Z112_q (a0:TRef):Option Bool:=(Z114_q a0).bind fun x3=>on (bif (decide ((0:Int)<((x3.FWraps.l.length:Nat):Int))) then((x3.FWraps.l)[0]?.getD (0:Int)) else(0:Int)) fun x6=>some ((decide ((0:Int)<((x3.FWraps.l.length:Nat):Int)))&&(decide (x6=(2:Int))))
theorem Z112_eq (a0:TRef):Z112 a0=Z112_q a0:=by
 unfold Z112 Z112_q;refine Qs ?_;refine Q.bindO (Z114_eq _) fun x3=>?_;refine Q.guardTO (fun hc=>Q.getD_some (by simp at hc; omega)) fun x6 hx_x6=>?_;all_goals rfl
def Z111_q (a0:TRef):Option (TRef×Bool):=(Z112_q a0).bind fun x4=>bif (!x4) then(some ((TRef.mk ([]:Bs) (Sl.nil:Sl Int)),false)) else((Z114_q a0).bind fun x8=>(partC x8.FWraps (some (1:Int)) none).bind fun x10=>some ((TRef.mk x8.FName x10),true))
theorem Z111_eq (a0:TRef):Z111 a0=Z111_q a0:=by
 unfold Z111 Z111_q;refine Qs ?_;refine Q.bindO (Z112_eq _) fun x4=>?_;refine Q.condO ?_ ?_
 ·all_goals rfl
 refine Q.bindO (Z114_eq _) fun x8=>?_;refine Q.bindO rfl fun x10=>?_;all_goals rfl
def Z119_q (a0:TRef) (a1:TRef):Option (TRef×Bool):=Z119 a0 a1
theorem Z119_eq (a0:TRef) (a1:TRef):Z119 a0 a1=Z119_q a0 a1:=rfl
def Z117_q (a0:TRef) (a1:TRef):Option Bool:=guardO (((a0.FName==a1.FName))) (Z80_q a0.FWraps a1.FWraps) false fun x3=>some (((a0.FName==a1.FName))&&x3)
theorem Z117_eq (a0:TRef) (a1:TRef):Z117 a0 a1=Z117_q a0 a1:=by
 unfold Z117 Z117_q;refine Qs ?_;refine Q.guardOO (Z80_eq _ _) fun x3=>?_;all_goals rfl
def Z110_q (a0:TRef) (a1:TRef):Option Bool:=(Z119_q a0 a1).bind fun x3=>guardO (x3.2) (Z117_q x3.1 a1) false fun x5=>some (x3.2&&x5)
theorem Z110_eq (a0:TRef) (a1:TRef):Z110 a0 a1=Z110_q a0 a1:=by
 unfold Z110 Z110_q;refine Qs ?_;refine Q.bindO (Z119_eq _ _) fun x3=>?_;refine Q.guardOO (Z117_eq _ _) fun x5=>?_;all_goals rfl
def Z9_q (a0:Z3):Option Bool:=on (bif (decide (a0.FKind=(2:Int))) then((decide (a0.FKind=(2:Int)))) else(bif (decide (a0.FKind=(5:Int))) then((decide (a0.FKind=(5:Int)))) else(bif (decide (a0.FKind=(12:Int))) then((decide (a0.FKind=(12:Int)))) else((decide (a0.FKind=(18:Int))))))) fun s9_6=>bif s9_6 then(some true) else(on (bif (decide (a0.FKind=(8:Int))) then((decide (a0.FKind=(8:Int)))) else((decide (a0.FKind=(14:Int))))) fun s14_10=>bif s14_10 then((Z93_q a0.FTo ([33]:Bs)).bind fun x13=>guardO ((!x13)) (Z90_q a0.FTo ([32,61,32]:Bs)) false fun x14=>some ((!x13)&&(!x14))) else(on (bif (decide (a0.FKind=(9:Int))) then((decide (a0.FKind=(9:Int)))) else((decide (a0.FKind=(15:Int))))) fun s27_16=>bif s27_16 then((Z115_q a0.FFrom).bind fun x19=>(Z115_q a0.FTo).bind fun x21=>guardO (((decide (x19.2=(0:Int)))&&(decide (x21.2=(0:Int))))) (Z110_q x19.1 x21.1) false fun x23=>some (((decide (x19.2=(0:Int)))&&(decide (x21.2=(0:Int))))&&x23)) else(on (()) fun _=>some false)))
theorem Z9_eq (a0:Z3):Z9 a0=Z9_q a0:=by
 unfold Z9 Z9_q;refine Qs ?_;refine Q.wrapPO fun Kj5 hKj5=>?_;have hj5:∀(s9_6:Bool),Z9_j5 a0 s9_6=Kj5 s9_6:=by
  intro s9_6;refine Qe (hKj5 _) ?_;unfold Z9_j5;refine Q.condO ?_ ?_
  ·all_goals rfl
  refine Q.wrapPO fun Kj9 hKj9=>?_;have hj9:∀(s14_10:Bool),Z9_j9 a0 s14_10=Kj9 s14_10:=by
   intro s14_10;refine Qe (hKj9 _) ?_;unfold Z9_j9;refine Q.condO ?_ ?_
   ·refine Q.bindO (Z93_eq _ _) fun x13=>?_;refine Q.guardOO (Z90_eq _ _) fun x14=>?_;all_goals rfl
   refine Q.wrapPO fun Kj15 hKj15=>?_;have hj15:∀(s27_16:Bool),Z9_j15 a0 s27_16=Kj15 s27_16:=by
    intro s27_16;refine Qe (hKj15 _) ?_;unfold Z9_j15;refine Q.condO ?_ ?_
    ·refine Q.bindO (Z115_eq _) fun x19=>?_;refine Q.bindO (Z115_eq _) fun x21=>?_;refine Q.guardOO (Z110_eq _ _) fun x23=>?_;all_goals rfl
    refine Q.wrapPO fun Kj2 hKj2=>?_;have hj2:Z9_j2  =Kj2 ():=by
     refine Qe (hKj2 _) ?_;unfold Z9_j2;all_goals rfl
    all_goals exact hj2
   refine Q.condP ?_ ?_
   ·all_goals exact hj15 _
   all_goals exact hj15 _
  refine Q.condP ?_ ?_
  ·all_goals exact hj9 _
  all_goals exact hj9 _
 refine Q.condP ?_ ?_
 ·all_goals exact hj5 _
 refine Q.condP ?_ ?_
 ·all_goals exact hj5 _
 refine Q.condP ?_ ?_
 ·all_goals exact hj5 _
 all_goals exact hj5 _
end Go.Proofs

namespace Go.Proofs
open Go Go.Ab
def Z39_qn:Nat->Int->Option Bs
 | 0,_=>none
 | n+1,a0=>(subC (48:Int) (Int.tmod a0 (10:Int))).bind fun x3=>bif (decide ((-10:Int)<a0)) then(some (bytesC (⟨false,[(IntKind.wrap .u8 x3)]⟩:Sl Int))) else(((Z39_qn n) (IntKind.wrap .i64 (Int.tdiv a0 (10:Int)))).bind fun x9=>(catC x9 (bytesC (⟨false,[(IntKind.wrap .u8 x3)]⟩:Sl Int))).bind fun x10=>some x10)
theorem Z39_qall:∀n:Nat,Z39_n n=Z39_qn n:=by
 intro n;induction n with
 | zero=>exact(by funext a0; first|rfl|(rw [Z39_n,Z39_qn]))
 | succ n ih =>
  funext a0
  refine Qs ?_;rw [Z39_n,Z39_qn];try rw [ih]
  refine Q.bindO rfl fun x3=>?_;refine Q.condO ?_ ?_
  ·all_goals rfl
  refine Q.bindO rfl fun x9=>?_;refine Q.bindO rfl fun x10=>?_;all_goals rfl
def Z39_q (a0:Int):Option Bs:=Z39_qn F0 a0
theorem Z39_eq (a0:Int):Z39 a0=Z39_q a0:=by
 unfold Z39 Z39_q; rw [(Z39_qall F0)]
def Z34_q (a0:Int):Option Bs:=bif (decide (a0<(0:Int))) then((Z39_q a0).bind fun x6=>(catC ([45]:Bs) x6).bind fun x7=>some x7) else((Z39_q (IntKind.wrap .i64 (0-a0))).bind fun x9=>some x9)
theorem Z34_eq (a0:Int):Z34 a0=Z34_q a0:=by
 unfold Z34 Z34_q;refine Qs ?_;refine Q.condO ?_ ?_
 ·refine Q.bindO (Z39_eq _) fun x6=>?_;refine Q.bindO rfl fun x7=>?_;all_goals rfl
 refine Q.bindO (Z39_eq _) fun x9=>?_;all_goals rfl
def Z68_q (a0:Int):Option Bs:=bif ((decide ((1:Int)<=a0))&&(decide (a0<=(((⟨false,[([84,121,112,101,71,111,110,101]:Bs),([84,121,112,101,78,101,119]:Bs),([84,121,112,101,75,105,110,100]:Bs),([70,105,101,108,100,71,111,110,101]:Bs),([70,105,101,108,100,78,101,119]:Bs),([70,105,101,108,100,84,121,112,101]:Bs),([65,114,103,71,111,110,101]:Bs),([65,114,103,78,101,119]:Bs),([65,114,103,84,121,112,101]:Bs),([65,114,103,68,101,102,97,117,108,116]:Bs),([77,101,109,98,101,114,71,111,110,101]:Bs),([77,101,109,98,101,114,78,101,119]:Bs),([73,110,112,117,116,71,111,110,101]:Bs),([73,110,112,117,116,78,101,119]:Bs),([73,110,112,117,116,84,121,112,101]:Bs),([73,110,112,117,116,68,101,102,97,117,108,116]:Bs),([70,97,99,101,71,111,110,101]:Bs),([70,97,99,101,78,101,119]:Bs)]⟩:Sl Bs).l.length:Nat):Int)))) then((subC a0 (1:Int)).bind fun x7=>(idxC (⟨false,[([84,121,112,101,71,111,110,101]:Bs),([84,121,112,101,78,101,119]:Bs),([84,121,112,101,75,105,110,100]:Bs),([70,105,101,108,100,71,111,110,101]:Bs),([70,105,101,108,100,78,101,119]:Bs),([70,105,101,108,100,84,121,112,101]:Bs),([65,114,103,71,111,110,101]:Bs),([65,114,103,78,101,119]:Bs),([65,114,103,84,121,112,101]:Bs),([65,114,103,68,101,102,97,117,108,116]:Bs),([77,101,109,98,101,114,71,111,110,101]:Bs),([77,101,109,98,101,114,78,101,119]:Bs),([73,110,112,117,116,71,111,110,101]:Bs),([73,110,112,117,116,78,101,119]:Bs),([73,110,112,117,116,84,121,112,101]:Bs),([73,110,112,117,116,68,101,102,97,117,108,116]:Bs),([70,97,99,101,71,111,110,101]:Bs),([70,97,99,101,78,101,119]:Bs)]⟩:Sl Bs).l x7).bind fun x8=>some x8) else((Z34_q a0).bind fun x10=>(catC ([67,104,97,110,103,101,32]:Bs) x10).bind fun x11=>some x11)
theorem Z68_eq (a0:Int):Z68 a0=Z68_q a0:=by
 unfold Z68 Z68_q;refine Qs ?_;refine Q.condO ?_ ?_
 ·refine Q.bindO rfl fun x7=>?_;refine Q.bindO rfl fun x8=>?_;all_goals rfl
 refine Q.bindO (Z34_eq _) fun x10=>?_;refine Q.bindO rfl fun x11=>?_;all_goals rfl
def Z70_q (a0:Bs):Bs:=bif ((a0==([]:Bs))) then(([110,111,110,101]:Bs)) else(a0)
theorem Z70_eq (a0:Bs):Z70 a0=some (Z70_q a0):=by
 unfold Z70 Z70_q;refine Q.condP ?_ ?_
 ·all_goals rfl
 all_goals rfl
def Z67_q (a0:Z3):Option Bs:=(Z68_q a0.FKind).bind fun x3=>(catC x3 ([32]:Bs)).bind fun x4=>(catC x4 a0.FType).bind fun x5=>Option.bind (bif (!(a0.FField==([]:Bs))) then((catC x5 ([46]:Bs)).bind fun x28=>(catC x28 a0.FField).bind fun x29=>some x29) else(some x5)) fun s3_7=>Option.bind (bif (!(a0.FArg==([]:Bs))) then((catC s3_7 ([40]:Bs)).bind fun x23=>(catC x23 a0.FArg).bind fun x24=>(catC x24 ([41]:Bs)).bind fun x25=>some x25) else(some s3_7)) fun s3_9=>Option.bind (bif ((!(a0.FFrom==([]:Bs)))||(!(a0.FTo==([]:Bs)))) then((catC s3_9 ([58,32]:Bs)).bind fun x15=>on (Z70_q a0.FFrom) fun x16=>(catC x15 x16).bind fun x17=>(catC x17 ([32,45,62,32]:Bs)).bind fun x18=>on (Z70_q a0.FTo) fun x19=>(catC x18 x19).bind fun x20=>some x20) else(some s3_9)) fun s3_11=>some s3_11
theorem Z67_eq (a0:Z3):Z67 a0=Z67_q a0:=by
 unfold Z67 Z67_q;refine Qs ?_;refine Q.bindO (Z68_eq _) fun x3=>?_;refine Q.bindO rfl fun x4=>?_;refine Q.bindO rfl fun x5=>?_;refine Q.wrapOO fun Kj6 hKj6=>?_;have hj6:∀(s3_7:Bs),Z67_j6 a0 s3_7=Kj6 s3_7:=by
  intro s3_7;refine Qe (hKj6 _) ?_;unfold Z67_j6;refine Q.wrapOO fun Kj8 hKj8=>?_;have hj8:∀(s3_9:Bs),Z67_j8 a0 s3_9=Kj8 s3_9:=by
   intro s3_9;refine Qe (hKj8 _) ?_;unfold Z67_j8;refine Q.wrapOO fun Kj10 hKj10=>?_;have hj10:∀(s3_11:Bs),Z67_j10  s3_11=Kj10 s3_11:=by
    intro s3_11;refine Qe (hKj10 _) ?_;unfold Z67_j10;all_goals rfl
   refine Q.condO ?_ ?_
   ·refine Q.bindO rfl fun x15=>?_;refine Q.bindPO (Z70_eq _) fun x16 hx_x16=>?_;refine Q.bindO rfl fun x17=>?_;refine Q.bindO rfl fun x18=>?_;refine Q.bindPO (Z70_eq _) fun x19 hx_x19=>?_;refine Q.bindO rfl fun x20=>?_;all_goals exact hj10 _
   all_goals exact hj10 _
  refine Q.condO ?_ ?_
  ·refine Q.bindO rfl fun x23=>?_;refine Q.bindO rfl fun x24=>?_;refine Q.bindO rfl fun x25=>?_;all_goals exact hj8 _
  all_goals exact hj8 _
 refine Q.condO ?_ ?_
 ·refine Q.bindO rfl fun x28=>?_;refine Q.bindO rfl fun x29=>?_;all_goals exact hj6 _
 all_goals exact hj6 _
def Z69_q (a0:Bs):Option Bool:=Z69 a0
theorem Z69_eq (a0:Bs):Z69 a0=Z69_q a0:=rfl
def Z38_q (a0:Int):Bool:=((decide ((48:Int)<=a0))&&(decide (a0<=(57:Int))))
theorem Z38_eq (a0:Int):Z38 a0=some (Z38_q a0):=by
 unfold Z38 Z38_q;all_goals rfl
def Z35_q47 :List UInt8->Unit ⊕ ((Int×Int))
 | []=>Sum.inl ()
 | h47::r47=>on (h47) fun x55=>on (Z38_q ((x55.toNat:Nat):Int)) fun x56=>bif (!x56) then(Sum.inr ((0:Int),(3:Int))) else(Z35_q47  (r47) )
theorem Z35_l47_qe {a0:Bs}{x5:UInt8}{s4_7:Bs}  (Kb47:(Unit ⊕ ((Int×Int)))->Option (Int×Int)) (hend:∀(n47:Nat) (s6_48:Nat),Z35_j14 a0 x5 s4_7  =Kb47 (Sum.inl ())) (hret:∀e:(Int×Int),some e=Kb47 (Sum.inr e)):∀(n47:Nat) (s6_48:Nat),(0<n47/\s4_7.length<s6_48+n47)->Z35_l47 a0 x5 s4_7 n47 s6_48=Kb47 (Z35_q47  (s4_7.drop s6_48) ):=by
 intro n47;induction n47 with
 | zero=>intro s6_48 hn; exact absurd hn.1 (by omega)
 | succ n47 ih47 =>
  intro s6_48 hn;rw [Z35_l47];by_cases hlt:s6_48<s4_7.length
  ·obtain⟨h47,hh47⟩:=Qa hlt;rw [Q.drop_of hh47,Z35_q47];refine QT hlt ?_;refine Q.bindP hh47 fun x55 hx_x55=>?_;refine Q.bindP (Z38_eq _) fun x56 hx_x56=>?_;refine Q.condP ?_ ?_
   ·all_goals exact hret _
   all_goals exact ih47 _ ⟨by omega,by omega⟩
  rw [dL (by omega),Z35_q47];refine QF hlt ?_;exact hend n47 s6_48
def Z35_q28 :List UInt8->Int->Option (Int ⊕ ((Int×Int)))
 | [],s7_29=>some (Sum.inl s7_29)
 | h28::r28,s7_29=>on (h28) fun x37=>(subC (IntKind.wrap .i64 ((x37.toNat:Nat):Int)) (48:Int)).bind fun x38=>(addC (-9223372036854775808:Int) x38).bind fun x41=>bif (decide (s7_29<(IntKind.wrap .i64 (Int.tdiv x41 (10:Int))))) then(some (Sum.inr ((0:Int),(4:Int)))) else((mulC (10:Int) s7_29).bind fun x44=>(subC x44 x38).bind fun x45=>Z35_q28  (r28) x45)
theorem Z35_l28_qe {a0:Bs}{x5:UInt8}{s4_7:Bs}  (Kb28:(Int ⊕ ((Int×Int)))->Option (Int×Int)) (hend:∀(n28:Nat) (s7_29:Int) (s8_30:Nat),Z35_j16 a0 x5  s7_29=Kb28 (Sum.inl s7_29)) (hret:∀e:(Int×Int),some e=Kb28 (Sum.inr e)):∀(n28:Nat) (s7_29:Int) (s8_30:Nat),(0<n28/\s4_7.length<s8_30+n28)->Z35_l28 a0 x5 s4_7 n28 s7_29 s8_30=Option.bind (Z35_q28  (s4_7.drop s8_30) s7_29) Kb28:=by
 intro n28;induction n28 with
 | zero=>intro s7_29 s8_30 hn; exact absurd hn.1 (by omega)
 | succ n28 ih28 =>
  intro s7_29 s8_30 hn;rw [Z35_l28];by_cases hlt:s8_30<s4_7.length
  ·obtain⟨h28,hh28⟩:=Qa hlt;rw [Q.drop_of hh28,Z35_q28];refine QT hlt ?_;refine Q.bindPO hh28 fun x37 hx_x37=>?_;refine Q.bindO rfl fun x38=>?_;refine Q.bindO rfl fun x41=>?_;refine Q.condO ?_ ?_
   ·all_goals exact hret _
   refine Q.bindO rfl fun x44=>?_;refine Q.bindO rfl fun x45=>?_;all_goals exact ih28 _ _ ⟨by omega,by omega⟩
  rw [dL (by omega),Z35_q28];refine QF hlt ?_;exact hend n28 s7_29 s8_30
def Z35_q (a0:Bs):Option (Int×Int):=on (bif (decide ((0:Int)<((a0.length:Nat):Int))) then((a0)[0]?.getD (0:UInt8)) else(0:UInt8)) fun x5=>Option.bind (bif ((decide ((0:Int)<((a0.length:Nat):Int)))&&(decide (((x5.toNat:Nat):Int)=(45:Int)))) then((cutC a0 (some (1:Int)) none).bind fun x61=>some x61) else(some a0)) fun s4_7=>guardO (!(decide (((s4_7.length:Nat):Int)=(0:Int)))) (s4_7[0]?) (0:UInt8) fun x11=>bif ((decide (((s4_7.length:Nat):Int)=(0:Int)))||((decide (((x11.toNat:Nat):Int)=(48:Int)))&&((decide ((1:Int)<((s4_7.length:Nat):Int)))||((decide ((0:Int)<((a0.length:Nat):Int)))&&(decide (((x5.toNat:Nat):Int)=(45:Int))))))) then(some ((0:Int),(3:Int))) else(on (Z35_q47  s4_7 ) fun o47=>match o47 with|Sum.inl _=>(on (()) fun _=>Option.bind (Z35_q28  s4_7 (0:Int)) fun o28=>match o28 with|Sum.inl s7_29=>(on (s7_29) fun s7_17=>bif ((decide ((0:Int)<((a0.length:Nat):Int)))&&(decide (((x5.toNat:Nat):Int)=(45:Int)))) then(some (s7_17,(0:Int))) else(bif (decide (s7_17=(-9223372036854775808:Int))) then(some ((0:Int),(4:Int))) else(some ((IntKind.wrap .i64 (0-s7_17)),(0:Int)))))|Sum.inr e28=>(some e28))|Sum.inr e47=>(some e47))
theorem Z35_eq (a0:Bs):Z35 a0=Z35_q a0:=by
 unfold Z35 Z35_q;refine Qs ?_;refine Q.guardTO (fun hc=>Q.getD_some (by simp at hc; omega)) fun x5 hx_x5=>?_;refine Q.wrapOO fun Kj6 hKj6=>?_;have hj6:∀(s4_7:Bs),Z35_j6 a0 x5 s4_7=Kj6 s4_7:=by
  intro s4_7;refine Qe (hKj6 _) ?_;unfold Z35_j6;refine Q.guardOO rfl fun x11=>?_;refine Q.condO ?_ ?_
  ·all_goals rfl
  refine Q.wrapPO fun Kb47 hKb47=>?_;refine Z35_l47_qe  Kb47 ?_ ?_ _ _ ⟨Nat.succ_pos _,by omega⟩
  ·intro n47 s6_48;refine Qe (hKb47 _) ?_;try dsimp only
   refine Q.wrapPO fun Kj14 hKj14=>?_;have hj14:Z35_j14 a0 x5 s4_7 =Kj14 ():=by
    refine Qe (hKj14 _) ?_;unfold Z35_j14;refine Q.wrapOO fun Kb28 hKb28=>?_;refine Z35_l28_qe  Kb28 ?_ ?_ _ _ _ ⟨Nat.succ_pos _,by omega⟩
    ·intro n28 s7_29 s8_30;refine Qe (hKb28 _) ?_;try dsimp only
     refine Q.wrapPO fun Kj16 hKj16=>?_;have hj16:∀(s7_17:Int),Z35_j16 a0 x5 s7_17=Kj16 s7_17:=by
      intro s7_17;refine Qe (hKj16 _) ?_;unfold Z35_j16;refine Q.condO ?_ ?_
      ·all_goals rfl
      refine Q.condO ?_ ?_
      ·all_goals rfl
      all_goals rfl
     all_goals exact hj16 _
    intro e28;refine Qe (hKb28 _) ?_;try dsimp only
    all_goals rfl
   all_goals exact hj14
  intro e47;refine Qe (hKb47 _) ?_;try dsimp only
  all_goals rfl
 refine Q.condO ?_ ?_
 ·refine Q.bindO rfl fun x61=>?_;all_goals exact hj6 _
 all_goals exact hj6 _
def Z42_q (a0:Bs):Option ((Sl Z2)×Int×Int):=Z42 a0
theorem Z42_eq (a0:Bs):Z42 a0=Z42_q a0:=rfl
def Z64_q (a0:(Sl Z2)) (a1:Int) (a2:Bs):Option Bool:=guardO ((decide (a1<((a0.l.length:Nat):Int)))) (idxC a0.l a1) Z2.zero fun x4=>guardO (((decide (a1<((a0.l.length:Nat):Int)))&&(decide (x4.FKind=(1:Int))))) (idxC a0.l a1) Z2.zero fun x5=>some (((decide (a1<((a0.l.length:Nat):Int)))&&(decide (x4.FKind=(1:Int))))&&((x5.FText==a2)))
theorem Z64_eq (a0:(Sl Z2)) (a1:Int) (a2:Bs):Z64 a0 a1 a2=Z64_q a0 a1 a2:=by
 unfold Z64 Z64_q;refine Qs ?_;refine Q.guardOO rfl fun x4=>?_;refine Q.guardOO rfl fun x5=>?_;all_goals rfl
def Z65_q (a0:Int) (a1:TRef):Option TRef:=(appC 8 (⟨false,[a0]⟩:Sl Int) a1.FWraps).bind fun x3=>some (TRef.mk a1.FName x3)
theorem Z65_eq (a0:Int) (a1:TRef):Z65 a0 a1=Z65_q a0 a1:=by
 unfold Z65 Z65_q;refine Qs ?_;refine Q.bindO rfl fun x3=>?_;all_goals rfl
def Z55_q (a0:TRef):Option TRef:=(Z65_q (2:Int) a0).bind fun x3=>some x3
theorem Z55_eq (a0:TRef):Z55 a0=Z55_q a0:=by
 unfold Z55 Z55_q;refine Qs ?_;refine Q.bindO (Z65_eq _ _) fun x3=>?_;all_goals rfl
def Z54_q (a0:TRef):Bool:=on (bif (decide ((0:Int)<((a0.FWraps.l.length:Nat):Int))) then((a0.FWraps.l)[0]?.getD (0:Int)) else(0:Int)) fun x4=>((decide ((0:Int)<((a0.FWraps.l.length:Nat):Int)))&&(decide (x4=(1:Int))))
theorem Z54_eq (a0:TRef):Z54 a0=some (Z54_q a0):=by
 unfold Z54 Z54_q;refine Q.guardT (fun hc=>Q.getD_some (by simp at hc; omega)) fun x4 hx_x4=>?_;all_goals rfl
def Z56_q (a0:TRef):Option TRef:=on (Z54_q a0) fun x4=>bif x4 then((appC 8 (⟨false,[]⟩:Sl Int) a0.FWraps).bind fun x7=>some (TRef.mk a0.FName x7)) else((Z65_q (1:Int) a0).bind fun x9=>some x9)
theorem Z56_eq (a0:TRef):Z56 a0=Z56_q a0:=by
 unfold Z56 Z56_q;refine Qs ?_;refine Q.bindPO (Z54_eq _) fun x4 hx_x4=>?_;refine Q.condO ?_ ?_
 ·refine Q.bindO rfl fun x7=>?_;all_goals rfl
 refine Q.bindO (Z65_eq _ _) fun x9=>?_;all_goals rfl
end Go.Proofs

namespace Go.Proofs
open Go Go.Ab
def Z60_qn:Nat->(Sl Z2)->Int->Option (TRef×Int×Bool)
 | 0,_,_=>none
 | n+1,a0,a1=>(Z64_q a0 a1 ([91]:Bs)).bind fun x18=>on (fun(s1_4:Int) (y6_l1:TRef)=>(Z64_q a0 s1_4 ([33]:Bs)).bind fun x12=>Option.bind (bif x12 then((Z56_q y6_l1).bind fun x15=>(addC s1_4 (1:Int)).bind fun x16=>some (x16,x15)) else(some (s1_4,y6_l1))) fun z7=>some (z7.2,z7.1,true)) fun kj3=>bif x18 then((addC a1 (1:Int)).bind fun x21=>((Z60_qn n) a0 x21).bind fun x22=>guardO (!(!x22.2.2)) (Z64_q a0 x22.2.1 ([93]:Bs)) false fun x25=>bif ((!x22.2.2)||(!x25)) then(some ((TRef.mk ([]:Bs) (Sl.nil:Sl Int)),(0:Int),false)) else((Z55_q x22.1).bind fun x29=>(addC x22.2.1 (1:Int)).bind fun x30=>kj3 x30 x29)) else(guardO (!(decide (((a0.l.length:Nat):Int)<=a1))) (idxC a0.l a1) Z2.zero fun x34=>bif ((decide (((a0.l.length:Nat):Int)<=a1))||(!decide (x34.FKind=(2:Int)))) then(some ((TRef.mk ([]:Bs) (Sl.nil:Sl Int)),(0:Int),false)) else((idxC a0.l a1).bind fun x38=>(addC a1 (1:Int)).bind fun x39=>kj3 x39 (TRef.mk x38.FText ((TRef.mk ([]:Bs) (Sl.nil:Sl Int)).FWraps))))
theorem Z60_qall:∀n:Nat,Z60_n n=Z60_qn n:=by
 intro n;induction n with
 | zero=>exact(by funext a0 a1; first|rfl|(rw [Z60_n,Z60_qn]))
 | succ n ih =>
  funext a0 a1
  refine Qs ?_;rw [Z60_n,Z60_qn];try rw [ih]
  refine Q.bindO (Z64_eq _ _ _) fun x18=>?_;refine Q.mixO fun kj3 hkj3=>?_;have hj3:∀(s1_4:Int) (y5_l0:TRef) (y6_l1:TRef),Z60_j3 a0 s1_4 y5_l0 y6_l1=Option.bind (kj3 s1_4 y6_l1) some:=by
   intro s1_4 y5_l0 y6_l1;unfold Z60_j3;rw [hkj3];try dsimp only
   refine Q.bindO (Z64_eq _ _ _) fun x12=>?_;refine Q.wrapOO fun Kj7 hKj7=>?_;have hj7:∀(s1_8:Int) (y9_l1:TRef),Z60_j7  s1_8 y9_l1=Kj7 (s1_8,y9_l1):=by
    intro s1_8 y9_l1;refine Qe (hKj7 _) ?_;try dsimp only
    unfold Z60_j7;all_goals rfl
   refine Q.condO ?_ ?_
   ·refine Q.bindO (Z56_eq _) fun x15=>?_;refine Q.bindO rfl fun x16=>?_;all_goals exact hj7 _ _
   all_goals exact hj7 _ _
  refine Q.condO ?_ ?_
  ·refine Q.bindO rfl fun x21=>?_;refine Q.bindO rfl fun x22=>?_;refine Q.guardOO (Z64_eq _ _ _) fun x25=>?_;refine Q.condO ?_ ?_
   ·all_goals rfl
   refine Q.bindO (Z55_eq _) fun x29=>?_;refine Q.bindO rfl fun x30=>?_;all_goals exact hj3 _ _ _
  refine Q.guardOO rfl fun x34=>?_;refine Q.condO ?_ ?_
  ·all_goals rfl
  refine Q.bindO rfl fun x38=>?_;refine Q.bindO rfl fun x39=>?_;all_goals exact hj3 _ _ _
def Z60_q (a0:(Sl Z2)) (a1:Int):Option (TRef×Int×Bool):=Z60_qn F0 a0 a1
theorem Z60_eq (a0:(Sl Z2)) (a1:Int):Z60 a0 a1=Z60_q a0 a1:=by
 unfold Z60 Z60_q; rw [(Z60_qall F0)]
def Z58_q (a0:Bs):Option (TRef×Int):=(Z42_q a0).bind fun x3=>bif (!decide (x3.2.2=(0:Int))) then(some ((TRef.mk ([]:Bs) (Sl.nil:Sl Int)),x3.2.2)) else((Z60_q x3.1 (0:Int)).bind fun x9=>guardO (!(!x9.2.2)) (subC ((x3.1.l.length:Nat):Int) (1:Int)) (0:Int) fun x12=>bif ((!x9.2.2)||(!decide (x9.2.1=x12))) then(some ((TRef.mk ([]:Bs) (Sl.nil:Sl Int)),(3:Int))) else(bif (decide ((24:Int)<((x9.1.FWraps.l.length:Nat):Int))) then(some ((TRef.mk ([]:Bs) (Sl.nil:Sl Int)),(5:Int))) else(some (x9.1,(0:Int)))))
theorem Z58_eq (a0:Bs):Z58 a0=Z58_q a0:=by
 unfold Z58 Z58_q;refine Qs ?_;refine Q.bindO (Z42_eq _) fun x3=>?_;refine Q.condO ?_ ?_
 ·all_goals rfl
 refine Q.bindO (Z60_eq _ _) fun x9=>?_;refine Q.guardOO rfl fun x12=>?_;refine Q.condO ?_ ?_
 ·all_goals rfl
 refine Q.condO ?_ ?_
 ·all_goals rfl
 all_goals rfl
def Z63_q11 (a1:(Sl Int)):List Int->Nat->Option (Unit ⊕ Bool)
 | [],s5_12=>some (Sum.inl ())
 | h11::r11,s5_12=>on (h11) fun x19=>(a1.l[s5_12]?).bind fun x20=>bif (!decide (x19=x20)) then(some (Sum.inr false)) else(Z63_q11 a1 (r11) (s5_12+1) )
theorem Z63_l11_qe {a0:(Sl Int)}{a1:(Sl Int)}  (Kb11:(Unit ⊕ Bool)->Option Bool) (hend:∀(n11:Nat) (s5_12:Nat),Z63_j8   =Kb11 (Sum.inl ())) (hret:∀e:Bool,some e=Kb11 (Sum.inr e)):∀(n11:Nat) (s5_12:Nat),(0<n11/\a0.l.length<s5_12+n11)->Z63_l11 a0 a1 n11 s5_12=Option.bind (Z63_q11 a1 (a0.l.drop s5_12) s5_12 ) Kb11:=by
 intro n11;induction n11 with
 | zero=>intro s5_12 hn; exact absurd hn.1 (by omega)
 | succ n11 ih11 =>
  intro s5_12 hn;rw [Z63_l11];by_cases hlt:s5_12<a0.l.length
  ·obtain⟨h11,hh11⟩:=Qa hlt;rw [Q.drop_of hh11,Z63_q11];refine QT hlt ?_;refine Q.bindPO hh11 fun x19 hx_x19=>?_;refine Q.bindO rfl fun x20=>?_;refine Q.condO ?_ ?_
   ·all_goals exact hret _
   all_goals exact ih11 _ ⟨by omega,by omega⟩
  rw [dL (by omega),Z63_q11];refine QF hlt ?_;exact hend n11 s5_12
def Z63_q (a0:(Sl Int)) (a1:(Sl Int)):Option Bool:=bif (!decide (((a0.l.length:Nat):Int)=((a1.l.length:Nat):Int))) then(some false) else(Option.bind (Z63_q11 a1 a0.l 0 ) fun o11=>match o11 with|Sum.inl _=>(on (()) fun _=>some true)|Sum.inr e11=>(some e11))
theorem Z63_eq (a0:(Sl Int)) (a1:(Sl Int)):Z63 a0 a1=Z63_q a0 a1:=by
 unfold Z63 Z63_q;refine Qs ?_;refine Q.condO ?_ ?_
 ·all_goals rfl
 refine Q.wrapOO fun Kb11 hKb11=>?_;refine Z63_l11_qe  Kb11 ?_ ?_ _ _ ⟨Nat.succ_pos _,by omega⟩
 ·intro n11 s5_12;refine Qe (hKb11 _) ?_;try dsimp only
  refine Q.wrapPO fun Kj8 hKj8=>?_;have hj8:Z63_j8  =Kj8 ():=by
   refine Qe (hKj8 _) ?_;unfold Z63_j8;all_goals rfl
  all_goals exact hj8
 intro e11;refine Qe (hKb11 _) ?_;try dsimp only
 all_goals rfl
def Z62_q7 :List Int->(Sl Int)->Option ((Sl Int))
 | [],s3_8=>some s3_8
 | h7::r7,s3_8=>on (h7) fun x17=>Option.bind (bif (!decide (x17=(1:Int))) then(on (h7) fun x19=>(appC 8 s3_8 (⟨false,[x19]⟩:Sl Int)).bind fun x20=>some x20) else(some s3_8)) fun s3_15=>Z62_q7  (r7) s3_15
theorem Z62_l7_qe {a0:TRef}  (Kb7:((Sl Int))->Option (Sl Int)) (hend:∀(n7:Nat) (s3_8:(Sl Int)) (s4_9:Nat),Z62_j3   s3_8=Kb7 s3_8):∀(n7:Nat) (s3_8:(Sl Int)) (s4_9:Nat),(0<n7/\a0.FWraps.l.length<s4_9+n7)->Z62_l7 a0 n7 s3_8 s4_9=Option.bind (Z62_q7  (a0.FWraps.l.drop s4_9) s3_8) Kb7:=by
 intro n7;induction n7 with
 | zero=>intro s3_8 s4_9 hn; exact absurd hn.1 (by omega)
 | succ n7 ih7 =>
  intro s3_8 s4_9 hn;rw [Z62_l7];by_cases hlt:s4_9<a0.FWraps.l.length
  ·obtain⟨h7,hh7⟩:=Qa hlt;rw [Q.drop_of hh7,Z62_q7];refine QT hlt ?_;refine Q.bindPO hh7 fun x17 hx_x17=>?_;refine Q.wrapOO fun Kj14 hKj14=>?_;have hj14:∀(s3_15:(Sl Int)),Z62_j14 s4_9 (Z62_l7 a0 n7) s3_15=Kj14 s3_15:=by
    intro s3_15;refine Qe (hKj14 _) ?_;unfold Z62_j14;all_goals exact ih7 _ _ ⟨by omega,by omega⟩
   refine Q.condO ?_ ?_
   ·refine Q.bindPO hh7 fun x19 hx_x19=>?_;refine Q.bindO rfl fun x20=>?_;all_goals exact hj14 _
   all_goals exact hj14 _
  rw [dL (by omega),Z62_q7];refine QF hlt ?_;exact hend n7 s3_8 s4_9
def Z62_q (a0:TRef):Option (Sl Int):=Option.bind (Z62_q7  a0.FWraps.l (Sl.nil:Sl Int)) fun s3_8=>on (s3_8) fun s3_4=>some s3_4
theorem Z62_eq (a0:TRef):Z62 a0=Z62_q a0:=by
 unfold Z62 Z62_q;refine Qs ?_;refine Q.wrapOO fun Kb7 hKb7=>?_;refine Z62_l7_qe  Kb7 ?_ _ _ _ ⟨Nat.succ_pos _,by omega⟩;intro n7 s3_8 s4_9;refine Qe (hKb7 _) ?_;refine Q.wrapPO fun Kj3 hKj3=>?_;have hj3:∀(s3_4:(Sl Int)),Z62_j3  s3_4=Kj3 s3_4:=by
  intro s3_4;refine Qe (hKj3 _) ?_;unfold Z62_j3;all_goals rfl
 all_goals exact hj3 _
def Z59_q (a0:TRef) (a1:TRef):Option Bool:=guardO (((a0.FName==a1.FName))) (Z62_q a0) (Sl.nil:Sl Int) fun x3=>guardO (((a0.FName==a1.FName))) (Z62_q a1) (Sl.nil:Sl Int) fun x4=>guardO (((a0.FName==a1.FName))) (Z63_q x3 x4) false fun x5=>some (((a0.FName==a1.FName))&&x5)
theorem Z59_eq (a0:TRef) (a1:TRef):Z59 a0 a1=Z59_q a0 a1:=by
 unfold Z59 Z59_q;refine Qs ?_;refine Q.guardOO (Z62_eq _) fun x3=>?_;refine Q.guardOO (Z62_eq _) fun x4=>?_;refine Q.guardOO (Z63_eq _ _) fun x5=>?_;all_goals rfl
def Z61_q (a0:TRef):Option TRef:=(partC a0.FWraps (some (1:Int)) none).bind fun x3=>(appC 8 (⟨false,[]⟩:Sl Int) x3).bind fun x4=>some (TRef.mk a0.FName x4)
theorem Z61_eq (a0:TRef):Z61 a0=Z61_q a0:=by
 unfold Z61 Z61_q;refine Qs ?_;refine Q.bindO rfl fun x3=>?_;refine Q.bindO rfl fun x4=>?_;all_goals rfl
def Z57_q (a0:TRef):Option TRef:=on (Z54_q a0) fun x4=>bif x4 then((Z61_q a0).bind fun x7=>some x7) else((appC 8 (⟨false,[]⟩:Sl Int) a0.FWraps).bind fun x9=>some (TRef.mk a0.FName x9))
theorem Z57_eq (a0:TRef):Z57 a0=Z57_q a0:=by
 unfold Z57 Z57_q;refine Qs ?_;refine Q.bindPO (Z54_eq _) fun x4 hx_x4=>?_;refine Q.condO ?_ ?_
 ·refine Q.bindO (Z61_eq _) fun x7=>?_;all_goals rfl
 refine Q.bindO rfl fun x9=>?_;all_goals rfl
def Z53_q (a0:TRef):Option Bool:=(Z57_q a0).bind fun x3=>on (bif (decide ((0:Int)<((x3.FWraps.l.length:Nat):Int))) then((x3.FWraps.l)[0]?.getD (0:Int)) else(0:Int)) fun x6=>some ((decide ((0:Int)<((x3.FWraps.l.length:Nat):Int)))&&(decide (x6=(2:Int))))
theorem Z53_eq (a0:TRef):Z53 a0=Z53_q a0:=by
 unfold Z53 Z53_q;refine Qs ?_;refine Q.bindO (Z57_eq _) fun x3=>?_;refine Q.guardTO (fun hc=>Q.getD_some (by simp at hc; omega)) fun x6 hx_x6=>?_;all_goals rfl
def Z52_q (a0:TRef):Option (TRef×Bool):=(Z53_q a0).bind fun x4=>bif (!x4) then(some ((TRef.mk ([]:Bs) (Sl.nil:Sl Int)),false)) else((Z57_q a0).bind fun x8=>(Z61_q x8).bind fun x9=>some (x9,true))
theorem Z52_eq (a0:TRef):Z52 a0=Z52_q a0:=by
 unfold Z52 Z52_q;refine Qs ?_;refine Q.bindO (Z53_eq _) fun x4=>?_;refine Q.condO ?_ ?_
 ·all_goals rfl
 refine Q.bindO (Z57_eq _) fun x8=>?_;refine Q.bindO (Z61_eq _) fun x9=>?_;all_goals rfl
def Z51_qn:Nat->TRef->TRef->Option Bool
 | 0,_,_=>none
 | n+1,a0,a1=>(Z59_q a0 a1).bind fun x4=>on (bif !(!x4) then Z54_q a1 else false) fun x5=>on (bif (!(!x4)&&x5) then Z54_q a0 else false) fun x6=>bif ((!x4)||(x5&&(!x6))) then(some false) else((Z52_q a0).bind fun x10=>(Z52_q a1).bind fun x12=>guardO (!((!x10.2)||(!x12.2))) ((Z51_qn n) x10.1 x12.1) false fun x14=>some (((!x10.2)||(!x12.2))||x14))
theorem Z51_qall:∀n:Nat,Z51_n n=Z51_qn n:=by
 intro n;induction n with
 | zero=>exact(by funext a0 a1; first|rfl|(rw [Z51_n,Z51_qn]))
 | succ n ih =>
  funext a0 a1
  refine Qs ?_;rw [Z51_n,Z51_qn];try rw [ih]
  refine Q.bindO (Z59_eq _ _) fun x4=>?_;refine Q.guardPO (Z54_eq _) fun x5 hx_x5=>?_;refine Q.guardPO (Z54_eq _) fun x6 hx_x6=>?_;refine Q.condO ?_ ?_
  ·all_goals rfl
  refine Q.bindO (Z52_eq _) fun x10=>?_;refine Q.bindO (Z52_eq _) fun x12=>?_;refine Q.guardOO rfl fun x14=>?_;all_goals rfl
def Z51_q (a0:TRef) (a1:TRef):Option Bool:=Z51_qn F0 a0 a1
theorem Z51_eq (a0:TRef) (a1:TRef):Z51 a0 a1=Z51_q a0 a1:=by
 unfold Z51 Z51_q; rw [(Z51_qall F0)]
def Z66_q (a0:Z3):Option Bool:=on (bif (decide (a0.FKind=(2:Int))) then((decide (a0.FKind=(2:Int)))) else(bif (decide (a0.FKind=(5:Int))) then((decide (a0.FKind=(5:Int)))) else(bif (decide (a0.FKind=(12:Int))) then((decide (a0.FKind=(12:Int)))) else((decide (a0.FKind=(18:Int))))))) fun s9_6=>bif s9_6 then(some true) else(on (bif (decide (a0.FKind=(8:Int))) then((decide (a0.FKind=(8:Int)))) else((decide (a0.FKind=(14:Int))))) fun s14_10=>bif s14_10 then((Z69_q a0.FTo).bind fun x13=>some x13) else(on (bif (decide (a0.FKind=(9:Int))) then((decide (a0.FKind=(9:Int)))) else((decide (a0.FKind=(15:Int))))) fun s20_15=>bif s20_15 then((Z58_q a0.FFrom).bind fun x18=>(Z58_q a0.FTo).bind fun x20=>guardO (((decide (x18.2=(0:Int)))&&(decide (x20.2=(0:Int))))) (Z51_q x18.1 x20.1) false fun x22=>some (((decide (x18.2=(0:Int)))&&(decide (x20.2=(0:Int))))&&x22)) else(on (()) fun _=>some false)))
theorem Z66_eq (a0:Z3):Z66 a0=Z66_q a0:=by
 unfold Z66 Z66_q;refine Qs ?_;refine Q.wrapPO fun Kj5 hKj5=>?_;have hj5:∀(s9_6:Bool),Z66_j5 a0 s9_6=Kj5 s9_6:=by
  intro s9_6;refine Qe (hKj5 _) ?_;unfold Z66_j5;refine Q.condO ?_ ?_
  ·all_goals rfl
  refine Q.wrapPO fun Kj9 hKj9=>?_;have hj9:∀(s14_10:Bool),Z66_j9 a0 s14_10=Kj9 s14_10:=by
   intro s14_10;refine Qe (hKj9 _) ?_;unfold Z66_j9;refine Q.condO ?_ ?_
   ·refine Q.bindO (Z69_eq _) fun x13=>?_;all_goals rfl
   refine Q.wrapPO fun Kj14 hKj14=>?_;have hj14:∀(s20_15:Bool),Z66_j14 a0 s20_15=Kj14 s20_15:=by
    intro s20_15;refine Qe (hKj14 _) ?_;unfold Z66_j14;refine Q.condO ?_ ?_
    ·refine Q.bindO (Z58_eq _) fun x18=>?_;refine Q.bindO (Z58_eq _) fun x20=>?_;refine Q.guardOO (Z51_eq _ _) fun x22=>?_;all_goals rfl
    refine Q.wrapPO fun Kj2 hKj2=>?_;have hj2:Z66_j2  =Kj2 ():=by
     refine Qe (hKj2 _) ?_;unfold Z66_j2;all_goals rfl
    all_goals exact hj2
   refine Q.condP ?_ ?_
   ·all_goals exact hj14 _
   all_goals exact hj14 _
  refine Q.condP ?_ ?_
  ·all_goals exact hj9 _
  all_goals exact hj9 _
 refine Q.condP ?_ ?_
 ·all_goals exact hj5 _
 refine Q.condP ?_ ?_
 ·all_goals exact hj5 _
 refine Q.condP ?_ ?_
 ·all_goals exact hj5 _
 all_goals exact hj5 _
def Z31_q (a0:Z3):Option Bool:=bif ((decide ((2000:Int)<((a0.FFrom.length:Nat):Int)))||(decide ((2000:Int)<((a0.FTo.length:Nat):Int)))) then((Z32).bind fun x7=>some x7) else((Z11_q a0).bind fun x9=>(Z67_q a0).bind fun x10=>guardO (((x9==x10))) (Z9_q a0) false fun x11=>guardO (((x9==x10))) (Z66_q a0) false fun x12=>guardO ((((x9==x10))&&((x11==x12)))) (Z32) false fun x13=>some ((((x9==x10))&&((x11==x12)))&&x13))
theorem Z31_eq (a0:Z3):Z31 a0=Z31_q a0:=by
 unfold Z31 Z31_q;refine Qs ?_;refine Q.condO ?_ ?_
 ·refine Q.bindO rfl fun x7=>?_;all_goals rfl
 refine Q.bindO (Z11_eq _) fun x9=>?_;refine Q.bindO (Z67_eq _) fun x10=>?_;refine Q.guardOO (Z9_eq _) fun x11=>?_;refine Q.guardOO (Z66_eq _) fun x12=>?_;refine Q.guardOO rfl fun x13=>?_;all_goals rfl
end Go.Proofs

namespace Go.Proofs
open Go Go.Ab
theorem some_nat {a b:Nat}(h:a=b):some ((a:Nat):Int)=some ((b:Nat):Int):=by rw [h]
theorem idxC_nat {α:Type}(l:List α) (i:Nat):idxC l (i:Int)=l[i]?:=by unfold idxC; rw [if_pos (by omega)]; simp
theorem cut_from {s:Bs}{i:Nat}(h:i<=s.length):cutC s (some (i:Int)) none=some (s.drop i):=by
 unfold cutC; rw [if_pos (by simp; omega)]; simp
theorem cut_part {s:Bs}{i j:Nat}(h:i<=j) (hj:j<=s.length):cutC s (some (i:Int)) (some (j:Int))=some ((s.drop i).take (j-i)):=by
 unfold cutC; rw [if_pos (by simp; omega)];simp only [Option.getD_some,Int.toNat_natCast];rw [List.drop_take]
theorem drop_cons {s:Bs}{i:Nat}{c:UInt8}(h:s[i]?=some c):s.drop i=c::s.drop (i+1):=by
 obtain⟨hi,rfl⟩:=List.getElem?_eq_some_iff.1 h;exact List.drop_eq_getElem_cons hi
def isSp (c:UInt8):Bool:=decide (((c.toNat:Nat):Int)=32)||decide (((c.toNat:Nat):Int)=9)||decide (((c.toNat:Nat):Int)=10)||decide (((c.toNat:Nat):Int)=13)||decide (((c.toNat:Nat):Int)=44)
def isNl (c:UInt8):Bool:=decide (((c.toNat:Nat):Int)=10)||decide (((c.toNat:Nat):Int)=13)
def skN:Bool->Bs->Nat
 | _,[]=>0
 | false,c::r=>bif isSp c then 1+skN false r else bif decide (((c.toNat:Nat):Int)=35) then 1+skN true r else 0
 | true,c::r=>bif isNl c then 1+skN false r else 1+skN true r
theorem skN_le:∀(b:Bool) (l:Bs),skN b l<=l.length
 | b,[]=>by cases b<;>simp [skN]
 | false,c::r=>by
  have h1:=skN_le false r; have h2:=skN_le true r;rw [skN]; cases isSp c<;>cases decide (((c.toNat:Nat):Int)=35)<;>simp<;>omega
 | true,c::r=>by
  have h1:=skN_le false r; have h2:=skN_le true r;rw [skN]; cases isNl c<;>simp<;>omega
theorem isNl_sp {c:UInt8}(h:isNl c=true):isSp c=true:=by
 unfold isNl at h; unfold isSp;simp only [Bool.or_eq_true] at h ⊢;rcases h with h|h
 ·exact .inl (.inl (.inr h))
 ·exact .inl (.inr h)
theorem contains_nl (c:UInt8):([10,13]:Bs).contains c=isNl c:=by
 unfold isNl;rw [Bool.eq_iff_iff];simp only [List.contains_eq_mem,List.mem_cons,List.not_mem_nil,or_false,decide_eq_true_eq,Bool.or_eq_true];rw [<- UInt8.toNat_inj,<- UInt8.toNat_inj];show (c.toNat=10\/c.toNat=13)↔_;omega
theorem indexAny_sk:∀l:Bs,(∃k:Nat,Lib.indexAny l [10,13]=(k:Int)/\k<l.length/\skN true l=k+skN false (l.drop k))\/(Lib.indexAny l [10,13] = -1/\skN true l=l.length)
 | []=>.inr ⟨rfl,rfl⟩
 | c::r=>by
  rw [Lib.indexAny,contains_nl];cases h:isNl c
  ·rcases indexAny_sk r with ⟨k,h1,h2,h3⟩|⟨h1,h2⟩
   ·left
    refine⟨k+1, ?_,by simp; omega, ?_⟩
    ·rw [h1]; simp only [Bool.false_eq_true,if_false]; rw [if_neg (by simp)]; push_cast; rfl
    ·rw [skN,h,List.drop_succ_cons,h3]; simp; omega
   ·right
    rw [h1];refine⟨by simp, ?_⟩;rw [skN,h,h2]; simp; omega
  ·left
   refine⟨0,by simp,by simp, ?_⟩;rw [skN,h,List.drop_zero,skN,isNl_sp h]; simp
theorem skip_aux (s:Bs) (hs:s.length<=1048576):∀(n i:Nat),i<=s.length->s.length-i<n->Z108_l5 s n (i:Int)=some (((i+skN false (s.drop i):Nat)):Int)
 | 0,_,_,h=>by omega
 | n+1,i,hi,hn=>by
  rw [Z108_l5];by_cases hlt:i<s.length
  ·have hd:decide ((i:Int)<((s.length:Nat):Int))=true:=dT (by omega);obtain⟨c,hc⟩:∃c,s[i]?=some c:=⟨s[i],List.getElem?_eq_getElem hlt⟩;have hdr:=drop_cons hc;have next:∀j:Nat,i<j->j<=s.length->Z108_l5 s n (j:Int)=some (((j+skN false (s.drop j):Nat)):Int):=fun j h1 h2=>skip_aux s hs n j h2 (by omega)
   have one:addC (i:Int) 1=some (((i+1:Nat)):Int):=by rw [addC_ok (by omega)]; rfl
   rw [hd,idxC_nat,hc,hdr,skN];simp only [Z108_j13,one];rw [cond_true,oB];have sp:isSp c=true->Z108_l5 s n (((i+1:Nat)):Int)=some (((i+(bif isSp c then 1+skN false (s.drop (i+1)) else bif decide (((c.toNat:Nat):Int)=35) then 1+skN true (s.drop (i+1)) else 0):Nat)):Int):=fun h=>by
    rw [next (i+1) (by omega) (by omega),h];simp only [cond_true]; exact some_nat (by omega)
   cases h1:decide (((c.toNat:Nat):Int)=32)
   ·rw [cond_false];cases h2:decide (((c.toNat:Nat):Int)=9)
    ·rw [cond_false];cases h3:decide (((c.toNat:Nat):Int)=10)
     ·rw [cond_false];cases h4:decide (((c.toNat:Nat):Int)=13)
      ·rw [cond_false];cases h5:decide (((c.toNat:Nat):Int)=44)
       ·have hns:isSp c=false:=by unfold isSp; rw [h1,h2,h3,h4,h5]; rfl
        have hnn:isNl c=false:=by unfold isNl; rw [h3,h4]; rfl
        rw [hns,cond_false,cond_false];cases h6:decide (((c.toNat:Nat):Int)=35)
        ·simp
        ·simp only [cond_true];rw [cut_from hi,oB,hdr];have he:Z94 (c::s.drop (i+1)) [10,13]=some (Lib.indexAny (c::s.drop (i+1)) [10,13]):=by
          unfold Z94 idxAnyC;rw [if_pos ⟨by decide,by decide,Nat.lt_of_le_of_lt (show (c::s.drop (i+1)).length<=1048577 by simp; omega) (by decide),by decide⟩]
         rw [he,oB];have hsk:skN true (c::s.drop (i+1))=1+skN true (s.drop (i+1)):=by rw [skN,hnn]; rfl
         rw [<- hsk];rcases indexAny_sk (c::s.drop (i+1)) with ⟨k,g1,g2,g3⟩|⟨g1,g2⟩
         ·have hk0:0<k:=by
           rcases Nat.eq_zero_or_pos k with h|h
           ·subst h;rw [Lib.indexAny,contains_nl,hnn] at g1;simp at g1
            split at g1<;>omega
           ·exact h
          rw [g1,show decide ((0:Int)<=(k:Int))=true from dT (by omega)];simp only [cond_true];simp only [List.length_cons,List.length_drop] at g2;rw [addC_ok (by omega),oB,show ((i:Int)+(k:Int))=((i+k:Nat):Int) by push_cast; rfl,next (i+k) (by omega) (by omega),g3,<- hdr,List.drop_drop];exact some_nat (by omega)
         ·rw [g1,show decide ((0:Int)<=(-1:Int))=false from rfl];simp only [cond_false];rw [next s.length (by omega) (Nat.le_refl _),g2,List.drop_length];simp only [skN,List.length_cons,List.length_drop];exact some_nat (by omega)
       ·rw [cond_true]; exact sp (by unfold isSp; rw [h5]; simp)
      ·rw [cond_true]; exact sp (by unfold isSp; rw [h4]; simp)
     ·rw [cond_true]; exact sp (by unfold isSp; rw [h3]; simp)
    ·rw [cond_true]; exact sp (by unfold isSp; rw [h2]; simp)
   ·rw [cond_true]; exact sp (by unfold isSp; rw [h1]; simp)
  ·rw [show decide ((i:Int)<((s.length:Nat):Int))=false from dF (by omega),List.drop_eq_nil_of_le (by omega)];simp [Z108_j2,skN]
theorem skip_eq {s:Bs}(hs:s.length<=1048576){i:Nat}(hi:i<=s.length):Z108 s (i:Int)=some (((i+skN false (s.drop i):Nat)):Int):=by
 unfold Z108; exact skip_aux s hs F0 i hi (by rw [F0_eq]; omega)
theorem rcom_aux (s:Bs) (hs:s.length<=1048576) (k:Int->Option Int):∀(n i:Nat),i<=s.length->s.length-i<n->(∀j:Nat,i<=j->j<=s.length->(j=s.length\/∃c,s[j]?=some c/\isNl c=true)->k (j:Int)=some (((j+skN false (s.drop j):Nat)):Int)) ->
  Z48_l23 s k n (i:Int)=some (((i+skN true (s.drop i):Nat)):Int)
 | 0,_,_,h,_=>by omega
 | n+1,i,hi,hn,hk=>by
  rw [Z48_l23];by_cases hlt:i<s.length
  ·have hd:decide ((i:Int)<((s.length:Nat):Int))=true:=dT (by omega);obtain⟨c,hc⟩:∃c,s[i]?=some c:=⟨s[i],List.getElem?_eq_getElem hlt⟩;have hdr:=drop_cons hc;have ih:=rcom_aux s hs k n (i+1) (by omega) (by omega) (fun j h1=>hk j (by omega));have one:addC (i:Int) 1=some (((i+1:Nat)):Int):=by rw [addC_ok (by omega)]; rfl
   rw [hd,idxC_nat,hc,one];simp only [guardO,if_true,oB,Bool.true_and];cases hn1:decide (((c.toNat:Nat):Int)=10)
   ·cases hn2:decide (((c.toNat:Nat):Int)=13)
    ·have hnn:isNl c=false:=by unfold isNl; rw [hn1,hn2]; rfl
     simp only [Bool.not_false,if_true,Bool.and_self,cond_true];rw [ih,hdr,skN,hnn];simp only [cond_false]; exact some_nat (by omega)
    ·have hnn:isNl c=true:=by unfold isNl; rw [hn2]; simp
     simp only [Bool.not_false,Bool.not_true,if_true,Bool.and_false,cond_false];rw [hk i (Nat.le_refl _) hi (.inr ⟨c,hc,hnn⟩),hdr,skN,skN,hnn,isNl_sp hnn];rfl
   ·have hnn:isNl c=true:=by unfold isNl; rw [hn1]; simp
    simp only [Bool.not_true,Bool.false_eq_true,if_false,Bool.and_false,Bool.false_and,cond_false];rw [hk i (Nat.le_refl _) hi (.inr ⟨c,hc,hnn⟩),hdr,skN,skN,hnn,isNl_sp hnn];rfl
  ·rw [show decide ((i:Int)<((s.length:Nat):Int))=false from dF (by omega)];simp only [guardO,Bool.false_and,Bool.false_eq_true,if_false,cond_false];have:i=s.length:=by omega
   rw [hk i (Nat.le_refl _) hi (.inl this),List.drop_eq_nil_of_le (by omega)];rfl
theorem space_eq (c:UInt8):Z49 ((c.toNat:Nat):Int)=some (isSp c):=rfl
theorem rskip_aux (s:Bs) (hs:s.length<=1048576):∀(n i:Nat),i<=s.length->s.length-i<n->Z48_l5 s n (i:Int)=some (((i+skN false (s.drop i):Nat)):Int)
 | 0,_,_,h=>by omega
 | n+1,i,hi,hn=>by
  rw [Z48_l5];by_cases hlt:i<s.length
  ·have hd:decide ((i:Int)<((s.length:Nat):Int))=true:=dT (by omega);obtain⟨c,hc⟩:∃c,s[i]?=some c:=⟨s[i],List.getElem?_eq_getElem hlt⟩;have hdr:=drop_cons hc;have one:addC (i:Int) 1=some (((i+1:Nat)):Int):=by rw [addC_ok (by omega)]; rfl
   rw [hd,idxC_nat,hc,hdr,skN,one];simp only [cond_true,oB,space_eq];cases hsp:isSp c
   ·simp only [cond_false];cases h6:decide (((c.toNat:Nat):Int)=35)
    ·simp
    ·have hnn:isNl c=false:=by
      cases h:isNl c with
      | false=>rfl
      | true=>rw [isNl_sp h] at hsp; cases hsp
     simp only [Bool.not_true,cond_false,cond_true];have hsk:skN true (s.drop i)=1+skN true (s.drop (i+1)):=by rw [hdr,skN,hnn]; rfl
     rw [<- hsk];refine rcom_aux s hs _ F0 i hi (by rw [F0_eq]; omega) fun j h1 h2 h3=>?_;have hij:i≠j\/i=s.length:=by
      rcases h3 with h|⟨c',h4,h5⟩
      ·exact .inl (by omega)
      ·refine .inl fun e=>?_;subst e; rw [hc] at h4; simp only [Option.some.injEq] at h4; subst h4; rw [hnn] at h5; cases h5
     exact rskip_aux s hs n j h2 (by omega)
   ·simp only [cond_true];rw [rskip_aux s hs n (i+1) (by omega) (by omega)];exact some_nat (by omega)
  ·rw [show decide ((i:Int)<((s.length:Nat):Int))=false from dF (by omega),List.drop_eq_nil_of_le (by omega)];simp [Z48_j2,skN]
theorem rskip_eq {s:Bs}(hs:s.length<=1048576){i:Nat}(hi:i<=s.length):Z48 s (i:Int)=some (((i+skN false (s.drop i):Nat)):Int):=by
 unfold Z48; exact rskip_aux s hs F0 i hi (by rw [F0_eq]; omega)
end Go.Proofs

namespace Go.Proofs
open Go Go.Ab
theorem wrap32 (c:UInt8):IntKind.wrap .i32 ((c.toNat:Nat):Int)=((c.toNat:Nat):Int):=by
 have h:=c.toNat_lt;simp [IntKind.wrap,IntKind.bits,IntKind.signed];omega
def isW (c:UInt8):Bool:=(((decide ((97:Int)<=((c.toNat:Nat):Int))&&decide (((c.toNat:Nat):Int)<=(122:Int)))||(decide ((65:Int)<=((c.toNat:Nat):Int))&&decide (((c.toNat:Nat):Int)<=(90:Int))))||(decide ((48:Int)<=((c.toNat:Nat):Int))&&decide (((c.toNat:Nat):Int)<=(57:Int))))||decide (((c.toNat:Nat):Int)=(95:Int))
def isD (c:UInt8):Bool:=decide ((48:Int)<=((c.toNat:Nat):Int))&&decide (((c.toNat:Nat):Int)<=(57:Int))
def isL (c:UInt8):Bool:=((decide ((65:Int)<=((c.toNat:Nat):Int))&&decide (((c.toNat:Nat):Int)<=(90:Int)))||(decide ((97:Int)<=((c.toNat:Nat):Int))&&decide (((c.toNat:Nat):Int)<=(122:Int))))||decide (((c.toNat:Nat):Int)=(95:Int))
theorem isW_eq (c:UInt8):isW c=(isL c||isD c):=by
 unfold isW isL isD;rw [Bool.eq_iff_iff];simp only [Bool.or_eq_true,Bool.and_eq_true,decide_eq_true_eq];constructor
 ·rintro (((h|h)|h)|h)
  ·exact .inl (.inl (.inr h))
  ·exact .inl (.inl (.inl h))
  ·exact .inr h
  ·exact .inl (.inr h)
 ·rintro (((h|h)|h)|h)
  ·exact .inl (.inl (.inr h))
  ·exact .inl (.inl (.inl h))
  ·exact .inr h
  ·exact .inl (.inr h)
theorem letter_eq (c:UInt8):Z105 (IntKind.wrap .i32 ((c.toNat:Nat):Int))=some (isW c):=by rw [wrap32]; rfl
def wordN (l:Bs):Nat:=(l.takeWhile isW).length
theorem wordN_le (l:Bs):wordN l<=l.length:=by
 unfold wordN;induction l with
 | nil=>simp
 | cons a r ih=>rw [List.takeWhile_cons]; split<;>simp<;>omega
theorem wordN_cons (c:UInt8) (r:Bs):wordN (c::r)=bif isW c then 1+wordN r else 0:=by
 unfold wordN; rw [List.takeWhile_cons]; cases isW c<;>simp<;>omega
theorem span_aux (s:Bs) (hs:s.length<=1048576):∀(n i:Nat),i<=s.length->s.length-i<n->Z109_l5 s Z105 n (i:Int)=some (((i+wordN (s.drop i):Nat)):Int)
 | 0,_,_,h=>by omega
 | n+1,i,hi,hn=>by
  rw [Z109_l5];by_cases hlt:i<s.length
  ·have hd:decide ((i:Int)<((s.length:Nat):Int))=true:=dT (by omega);obtain⟨c,hc⟩:∃c,s[i]?=some c:=⟨s[i],List.getElem?_eq_getElem hlt⟩;have one:addC (i:Int) 1=some (((i+1:Nat)):Int):=by rw [addC_ok (by omega)]; rfl
   have ih:=span_aux s hs n (i+1) (by omega) (by omega);rw [hd,idxC_nat,hc,one,drop_cons hc,wordN_cons];simp only [guardO,if_true,oB,letter_eq,Bool.true_and];cases isW c
   ·simp [Z109_j2]
   ·simp only [cond_true];rw [ih]; exact some_nat (by omega)
  ·rw [show decide ((i:Int)<((s.length:Nat):Int))=false from dF (by omega),List.drop_eq_nil_of_le (by omega)];simp [guardO,Z109_j2,wordN]
theorem span_eq {s:Bs}(hs:s.length<=1048576){i:Nat}(hi:i<=s.length):Z109 s (i:Int) Z105=some (((i+wordN (s.drop i):Nat)):Int):=by
 unfold Z109; exact span_aux s hs F0 i hi (by rw [F0_eq]; omega)
theorem rletter_eq (c:UInt8):Z45 ((c.toNat:Nat):Int)=some (isL c):=rfl
theorem rdigit_eq (c:UInt8):Z44 ((c.toNat:Nat):Int)=some (isD c):=rfl
theorem word_aux (s:Bs) (hs:s.length<=1048576):∀(n i:Nat),i<=s.length->s.length-i<n->Z50_l5 s n (i:Int)=some (((i+wordN (s.drop i):Nat)):Int)
 | 0,_,_,h=>by omega
 | n+1,i,hi,hn=>by
  rw [Z50_l5];by_cases hlt:i<s.length
  ·have hd:decide ((i:Int)<((s.length:Nat):Int))=true:=dT (by omega);obtain⟨c,hc⟩:∃c,s[i]?=some c:=⟨s[i],List.getElem?_eq_getElem hlt⟩;have one:addC (i:Int) 1=some (((i+1:Nat)):Int):=by rw [addC_ok (by omega)]; rfl
   have ih:=word_aux s hs n (i+1) (by omega) (by omega);rw [hd,idxC_nat,hc,one,drop_cons hc,wordN_cons,isW_eq];simp only [guardO,if_true,oB,rletter_eq,Bool.true_and];cases isL c
   ·simp only [Bool.not_false,if_true,rdigit_eq,oB,Bool.false_or];cases isD c
    ·simp [Z50_j2]
    ·simp only [cond_true]; rw [ih]; exact some_nat (by omega)
   ·simp only [Bool.true_or,cond_true];simp only [Bool.not_true,Bool.false_eq_true,if_false,Bool.true_or,cond_true];rw [ih]; exact some_nat (by omega)
  ·rw [show decide ((i:Int)<((s.length:Nat):Int))=false from dF (by omega),List.drop_eq_nil_of_le (by omega)];simp [guardO,Z50_j2,wordN]
theorem word_eq {s:Bs}(hs:s.length<=1048576){i:Nat}(hi:i<=s.length):Z50 s (i:Int)=some (((i+wordN (s.drop i):Nat)):Int):=by
 unfold Z50; exact word_aux s hs F0 i hi (by rw [F0_eq]; omega)
def litN:Bool->Bs->Option Nat
 | _,[]=>none
 | true,_::r=>(litN false r).map (·+1)
 | false,c::r=>bif decide (((c.toNat:Nat):Int)=34) then some 1 else(litN (decide (((c.toNat:Nat):Int)=92)) r).map (·+1)
theorem litN_le:∀(b:Bool) (l:Bs) (k:Nat),litN b l=some k->1<=k/\k<=l.length
 | _,[],_,h=>by cases h
 | true,_::r,k,h=>by
  rw [litN] at h;obtain⟨m,h1,rfl⟩:=Option.map_eq_some_iff.1 h;have:=litN_le false r m h1;simp; omega
 | false,c::r,k,h=>by
  rw [litN] at h;cases hc:decide (((c.toNat:Nat):Int)=34)
  ·rw [hc] at h;obtain⟨m,h1,rfl⟩:=Option.map_eq_some_iff.1 h;have:=litN_le _ r m h1;simp; omega
  ·rw [hc] at h;simp only [cond_true,Option.some.injEq] at h;subst h; simp
def litR (s:Bs) (i:Nat) (b:Bool):Int:=match litN b (s.drop i) with|some k=>((i+k:Nat):Int)|none => -1
theorem lit_aux (s:Bs) (hs:s.length<=1048576):∀(n i:Nat) (sk:Bool),i<=s.length->s.length-i<n->∃r,token_litSpan s n (i:Int) sk=some r/\((∃j:Nat,r.1=(j:Int)/\j<s.length/\litR s i sk=((j+1:Nat):Int))\/(r.1=((s.length:Nat):Int)/\litR s i sk = -1))
 | 0,_,_,_,h=>by omega
 | n+1,i,sk,hi,hn=>by
  rw [token_litSpan];by_cases hlt:i<s.length
  ·have hd:decide ((i:Int)<((s.length:Nat):Int))=true:=dT (by omega);obtain⟨c,hc⟩:∃c,s[i]?=some c:=⟨s[i],List.getElem?_eq_getElem hlt⟩;have one:addC (i:Int) 1=some (((i+1:Nat)):Int):=by rw [addC_ok (by omega)]; rfl
   have ih:=fun sk=>lit_aux s hs n (i+1) sk (by omega) (by omega);rw [hd,idxC_nat,hc,one];simp only [cond_true,oB,wrap32];have go:∀sk':Bool,litN sk (s.drop i)=(litN sk' (s.drop (i+1))).map (·+1)->litR s i sk=litR s (i+1) sk':=fun sk' h=>by
    unfold litR;rw [h];cases litN sk' (s.drop (i+1)) with
    | none=>rfl
    | some k=>simp only [Option.map_some]; exact congrArg _ (by omega)
   cases sk with
   | true =>
    simp only [token_litStep,cond_true];obtain⟨r,h1,h2⟩:=ih false;rw [go false (by rw [drop_cons hc,litN])];exact⟨r,h1,h2⟩
   | false =>
    simp only [token_litStep,cond_false];cases h34:decide (((c.toNat:Nat):Int)=34)
    ·simp only [Bool.not_false,cond_true];obtain⟨r,h1,h2⟩:=ih (decide (((c.toNat:Nat):Int)=92));rw [go _ (by rw [drop_cons hc,litN,h34]; rfl)];exact⟨r,h1,h2⟩
    ·simp only [Bool.not_true,cond_false];refine⟨_,rfl,.inl ⟨i,rfl,hlt, ?_⟩⟩;unfold litR;rw [drop_cons hc,litN,h34]; rfl
  ·rw [show decide ((i:Int)<((s.length:Nat):Int))=false from dF (by omega)];refine⟨_,rfl,.inr ⟨?_, ?_⟩⟩
   ·simp only; omega
   ·unfold litR; rw [List.drop_eq_nil_of_le (by omega)]; cases sk<;>rfl
theorem literal_eq {s:Bs}(hs:s.length<=1048576){i:Nat}(hi:i<s.length):Z106 s (i:Int)=some (litR s (i+1) false):=by
 unfold Z106;have one:addC (i:Int) 1=some (((i+1:Nat)):Int):=by rw [addC_ok (by omega)]; rfl
 obtain⟨r,h1,h2⟩:=lit_aux s hs F0 (i+1) false (by omega) (by rw [F0_eq]; omega);rw [one,oB,h1,oB];rcases h2 with ⟨j,h2,h3,h4⟩|⟨h2,h4⟩
 ·rw [h2,h4,show decide (((s.length:Nat):Int)<=(j:Int))=false from dF (by omega),cond_false,addC_ok (by omega)]; rfl
 ·rw [h2,h4,show decide (((s.length:Nat):Int)<=((s.length:Nat):Int))=true from dT (by omega),cond_true]
theorem j18_at (k:Int->Option Int) (j:Nat) (hj:j<=2000000):Z43_j18 k (j:Int)=k ((j+1:Nat):Int):=by
 unfold Z43_j18; rw [addC_ok (by omega)]; rfl
theorem closing_aux (s:Bs) (hs:s.length<=1048576):∀(n i:Nat),i<=s.length+1->s.length+1-i<n->Z43_l6 s n (i:Int)=some (litR s i false)
 | 0,_,_,h=>by omega
 | n+1,i,hi,hn=>by
  rw [Z43_l6];by_cases hlt:i<s.length
  ·have hd:decide ((i:Int)<((s.length:Nat):Int))=true:=dT (by omega);obtain⟨c,hc⟩:∃c,s[i]?=some c:=⟨s[i],List.getElem?_eq_getElem hlt⟩;have one:addC (i:Int) 1=some (((i+1:Nat)):Int):=by rw [addC_ok (by omega)]; rfl
   have ih1:=closing_aux s hs n (i+1) (by omega) (by omega);have ih2:=closing_aux s hs n (i+2) (by omega) (by omega);rw [hd,idxC_nat,hc,cond_true,oB,oB,one,oB,oB,j18_at _ (i+1) (by omega),j18_at _ i (by omega),ih1,ih2];unfold litR;rw [drop_cons hc,litN];cases h34:decide (((c.toNat:Nat):Int)=34)
   ·simp only [cond_false];cases h92:decide (((c.toNat:Nat):Int)=92)
    ·simp only [cond_false];cases litN false (s.drop (i+1)) with
     | none=>rfl
     | some k=>simp only [Option.map_some]; exact some_nat (by omega)
    ·simp only [cond_true];by_cases h2:i+1<s.length
     ·obtain⟨c2,hc2⟩:∃c,s[i+1]?=some c:=⟨s[i+1],List.getElem?_eq_getElem h2⟩;rw [drop_cons hc2,litN];cases litN false (s.drop (i+1+1)) with
      | none=>rfl
      | some k=>simp only [Option.map_some]; exact some_nat (by omega)
     ·rw [List.drop_eq_nil_of_le (by omega),List.drop_eq_nil_of_le (by omega)]; rfl
   ·simp only [cond_true]
  ·rw [show decide ((i:Int)<((s.length:Nat):Int))=false from dF (by omega)];unfold litR;rw [List.drop_eq_nil_of_le (by omega)]; rfl
theorem closing_eq {s:Bs}(hs:s.length<=1048576){i:Nat}(hi:i<s.length):Z43 s (i:Int)=some (litR s (i+1) false):=by
 unfold Z43;have one:addC (i:Int) 1=some (((i+1:Nat)):Int):=by rw [addC_ok (by omega)]; rfl
 rw [one,oB,closing_aux s hs F0 (i+1) (by omega) (by rw [F0_eq]; omega)]
end Go.Proofs
