import Derived.Test.YtmmmdpmnafkblaaGreatDoorV2
set_option maxRecDepth 100000
set_option maxHeartbeats 2000000
set_option linter.unusedVariables false
set_option linter.unusedSimpArgs false
namespace Go.Proofs
open Go Go.Ab
open AOps Cert AWp Keeps KeepsT
variable {lou:Lou}
def Z82_j7  (s5_8:(Sl Z3)):Option (Sl Z3):=some s5_8
def Z82_j3 (a0:TDoc) (a1:Bool)  (s5_4:(Sl Z3)):Option (Sl Z3):=(Z84 a0 ([81,117,101,114,121]:Bs)).bind fun x6=>bif (a1&&(!x6.2)) then((appC 24 s5_4 (⟨false,[(Z3.mk (30:Int) ([81,117,101,114,121]:Bs))]⟩:Sl Z3)).bind fun x12=>Z82_j7   x12) else(Z82_j7   s5_4)
def Z82_j21 (s6_16:Nat) (k_next_14:(Sl Z3)->Nat->Option (Sl Z3)) (s5_22:(Sl Z3)):Option (Sl Z3):=k_next_14 s5_22 (s6_16+1)
def Z82_j29 (a0:TDoc) (s6_16:Nat) (x24:TDef) (x27:(Sl Z3)) (k_next_14:(Sl Z3)->Nat->Option (Sl Z3)) (s29_30:Bool):Option (Sl Z3):=bif s29_30 then((Z93 a0 x24).bind fun x32=>(appC 24 x27 x32).bind fun x33=>Z82_j21 s6_16 k_next_14 x33) else(bif (decide (x24.FKind=(4:Int))) then((Z97 x24).bind fun x36=>(appC 24 x27 x36).bind fun x37=>Z82_j21 s6_16 k_next_14 x37) else(bif (decide (x24.FKind=(5:Int))) then((catC x24.FName ([46]:Bs)).bind fun x40=>(Z95 a0 x24.FInputs x40 ([]:Bs)).bind fun x41=>(appC 24 x27 x41).bind fun x42=>Z82_j21 s6_16 k_next_14 x42) else(Z82_j21 s6_16 k_next_14 x27)))
def Z82_l14 (a0:TDoc) (a1:Bool) :Nat->(Sl Z3)->Nat->Option (Sl Z3)
 | 0,_,_=>none
 | n14+1,s5_15,s6_16=>bif (decide (((s6_16:Nat):Int)<((a0.FDefs.l.length:Nat):Int))) then((a0.FDefs.l[s6_16]?).bind fun x24=>(Z100 a0 ((s6_16:Nat):Int)).bind fun x26=>(appC 24 s5_15 x26).bind fun x27=>bif (decide (x24.FKind=(1:Int))) then(Z82_j29 a0 s6_16 x24 x27 ((Z82_l14 a0 a1 n14)) (decide (x24.FKind=(1:Int)))) else(Z82_j29 a0 s6_16 x24 x27 ((Z82_l14 a0 a1 n14)) (decide (x24.FKind=(2:Int))))) else(Z82_j3 a0 a1  s5_15)
def Z82 (a0:TDoc) (a1:Bool):Option (Sl Z3):=Z82_l14 a0 a1 (a0.FDefs.l.length+1) (Sl.nil:Sl Z3) 0
theorem Z82_walk {a0:TDoc}{a1:Bool}{r:Sl Z3}(hE:Z82 a0 a1=some r) (H:Heap) :AC Tryz.prog 12 [.agg (TDoc.c a0),.d (.bool a1)] H fun v h'=>v=.a (.d (Sl.d 2 Z3.c none r))/\h'=H:=by
 unfold Z82 at hE;refine AC.oW 69 [.tmp 4] Tryz.call12 Tryz.func12 ?_;refine AWp.tok 2 fun tk1 htk1=>?_;refine seqR (S BX ?_);refine s0 (assignNil (k':=2) rfl) rfl ?_;refine nil ?_;refine seqR (S As (nil ?_));refine AWp.nilTok 5 2 tk1 rfl hpG ?_;refine seqJH (TA 1 (TA 2 kN)) (fun(z:(Sl Z3))=>[(5,.a (.d (Sl.d 2 Z3.c (some tk1) z)))]) (fun z=>(H.set tk1 (some (.tok 2 z.l.length)))) (fun z=>Z82_j3 a0 a1 z=some r) ?_ ?_
 ·intro K3 hK3;refine seqR (S As (nil ?_));refine block ?_;refine loopH (TA 1 (TA 2 kN)) (fun(z:Nat×(Sl Z3)×Nat)=>[(5,.a (.d (Sl.d 2 Z3.c (some tk1) z.2.1))),(6,.a (.d (.int .i64 ((z.2.2:Nat):Int))))]) (fun z=>(H.set tk1 (some (.tok 2 z.2.1.l.length)))) (fun z=>z.1) (fun z=>Z82_l14 a0 a1 z.1 z.2.1 z.2.2=some r) ((a0.FDefs.l.length+1),(Sl.nil:Sl Z3),0) hE wA ?_;rintro ⟨n14,s5_15,s6_16⟩ hE K14 hK14
  try dsimp only at hE
  cases n14 with
  | zero=>cases hE
  | succ n14 =>
    rw [Z82_l14] at hE;refine seqK fun K17 hK17=>?_;refine seqR (S Mv (S Fv (S Ld ?_)));refine sLen (f:=TDef.c) (s:=a0.FDefs) (TK rfl) rfl rfl rfl rfl fun hL19=>?_;refine S BI (nil ?_);refine cE hE (fun hc20 hE=>?_) (fun hc20 hE=>?_)
    ·try dsimp only at hc20
     have hf20:=oD hc20;refine sk hK17 ?_;clear hK17 K17;refine seqJH (TA 1 (TA 2 (TA 6 kN))) (fun(z:(Sl Z3))=>[(5,.a (.d (Sl.d 2 Z3.c (some tk1) z)))]) (fun z=>(H.set tk1 (some (.tok 2 z.l.length)))) (fun z=>Z82_j21 s6_16 ((Z82_l14 a0 a1 n14)) z=some r) ?_ ?_
     ·intro K21 hK21;refine block ?_;refine seqR (S Fv (S Ld (S Mv ?_)));obtain⟨x24,gx24,hE⟩:=bO hE;refine S (ix TDef.c s6_16 gx24) (S Ld ?_);refine Sl ?_;refine Sf ?_;refine nil ?_;refine freezeA 7 _ rfl (KA 1 (KA 2 (KA 5 (KA 6 Keeps.nil)))) ?_;refine seqR (S Mv (S Ld (S Mv ?_)));obtain⟨x26,gx26,hE⟩:=bO hE;refine Sc rfl rfl (Z100_walk gx26) ?_;obtain⟨x27,gx27,hE⟩:=bO hE;refine SH (am Z3.c (TK rfl) rfl (TK rfl) (TK rfl) gx27) ?_
      refine hq (H.set tk1 (some (.tok 2 x27.l.length))) ?_;refine S As (nil ?_);refine seqR (S Fv (S Ld (nil ?_)));refine block ?_;refine seqJH (TA 1 (TA 2 (TA 5 (TA 6 (TA 7 (TA 28 kN)))))) (fun(z:Bool)=>[(29,.a (.d (.bool z)))]) (fun z=>(H.set tk1 (some (.tok 2 x27.l.length)))) (fun z=>Z82_j29 a0 s6_16 x24 x27 ((Z82_l14 a0 a1 n14)) z=some r) ?_ ?_
      ·intro K29 hK29;refine seqR (S BI (S As (nil ?_)));refine cE hE (fun hc44 hE=>?_) (fun hc44 hE=>?_)
       ·refine AWp.skip ?_;exact hK29 _ (decide (x24.FKind=(1:Int))) wA hE
       refine region ?_;refine S BI (S As (nil ?_));exact hK29 _ (decide (x24.FKind=(2:Int))) wA hE
      rintro s29_30 hE;try dsimp only at hE
      unfold Z82_j29 at hE;refine cE hE (fun hc31 hE=>?_) (fun hc31 hE=>?_)
      ·refine region ?_;refine S Mv (S Ld (S Ld ?_));obtain⟨x32,gx32,hE⟩:=bO hE;refine Sc rfl rfl (Z93_walk gx32) ?_;obtain⟨x33,gx33,hE⟩:=bO hE;refine SH (am Z3.c (TK rfl) rfl (TK rfl) (TK rfl) gx33) ?_;refine hq (H.set tk1 (some (.tok 2 x33.l.length))) ?_;refine S As (nil ?_);exact hK21 _ x33 wA hE
      refine seqR (S BI (S As (nil ?_)));refine cE hE (fun hc35 hE=>?_) (fun hc35 hE=>?_)
      ·refine region ?_;refine S Mv (S Ld ?_);obtain⟨x36,gx36,hE⟩:=bO hE;refine Sc rfl rfl (Z97_walk gx36) ?_;obtain⟨x37,gx37,hE⟩:=bO hE;refine SH (am Z3.c (TK rfl) rfl (TK rfl) (TK rfl) gx37) ?_;refine hq (H.set tk1 (some (.tok 2 x37.l.length))) ?_;refine S As (nil ?_);exact hK21 _ x37 wA hE
      refine seqR (S BI (S As (nil ?_)));refine cE hE (fun hc39 hE=>?_) (fun hc39 hE=>?_)
      ·refine region ?_;refine S Mv (S Ld (S Fv (S Ld (S Fv (S Ld ?_)))));obtain⟨x40,gx40,hE⟩:=bO hE;refine s0 (catM rfl rfl gx40) rfl ?_;obtain⟨x41,gx41,hE⟩:=bO hE;refine Sc rfl rfl (Z95_walk gx41) ?_;obtain⟨x42,gx42,hE⟩:=bO hE;refine SH (am Z3.c (TK rfl) rfl (TK rfl) (TK rfl) gx42) ?_;refine hq (H.set tk1 (some (.tok 2 x42.l.length))) ?_;refine S As (nil ?_);exact hK21 _ x42 wA hE
      refine AWp.skip ?_;exact hK21 _ x27 wA hE
     rintro s5_22 hE;try dsimp only at hE
     unfold Z82_j21 at hE;refine region ?_;refine S Mv ?_;refine SI ?_;refine S As (nil ?_);exact hK14 _ (n14,s5_22,(s6_16+1)) wA hE (nS _)
    refine AWp.exit ?_;exact hK3 _ s5_15 wA hE
 rintro s5_4 hE;try dsimp only at hE
 unfold Z82_j3 at hE;refine seqR (S Ld ?_);obtain⟨x6,gx6,hE⟩:=bO hE;refine Sc rfl rfl (Z84_walk gx6) ?_;refine S Mv (S EX (S EX ?_));refine Sl ?_;refine Sf ?_;refine S As (nil ?_);refine freezeA 8 _ rfl (KA 1 (KA 5 (KA 9 Keeps.nil))) ?_;refine seqJH kN (fun(z:(Sl Z3))=>[(5,.a (.d (Sl.d 2 Z3.c (some tk1) z)))]) (fun z=>(H.set tk1 (some (.tok 2 z.l.length)))) (fun z=>Z82_j7 z=some r) ?_ ?_
 ·intro K7 hK7;refine seqR (S Mv (S Mv (G0 Mv ?_)));refine G1 61 rfl NB ?_;refine S PA (nil ?_);refine cE hE (fun hc11 hE=>?_) (fun hc11 hE=>?_)
  ·refine region ?_;refine S Mv (S BU (S BV ?_));obtain⟨x12,gx12,hE⟩:=bO hE;refine SH (am Z3.c (TK rfl) rfl (TK rfl) (TK rfl) gx12) ?_;refine hq (H.set tk1 (some (.tok 2 x12.l.length))) ?_;refine S As (nil ?_);exact hK7 _ x12 wA hE
  refine AWp.skip ?_;exact hK7 _ s5_4 wA hE
 rintro s5_8 hE;try dsimp only at hE
 unfold Z82_j7 at hE;refine seqR (S Mv (S As (nil ?_)));refine AWp.dropTok 4 rfl ?_;refine AWp.ret ?_;repeat (first|refine xBlock_ret ?_|refine xThen_ret ?_)
 obtain rfl:=oJ hE;refine retQ.retF H rfl ⟨rfl,rfl⟩ ?_
 first|exact Heap.sub_set htk1|(simp only [Heap.set_set]; exact Heap.sub_set htk1)
def Z108 (a0:TDoc) (a1:Bs) (a2:Int):Option Int:=(Z84 a0 a1).bind fun x3=>guardO ((!x3.2)) (Z88 a1) false fun x6=>bif ((!x3.2)&&(!x6)) then(some (8:Int)) else(bif (!decide (x3.1.FKind=a2)) then(some (9:Int)) else(some (0:Int)))
theorem Z108_walk {a0:TDoc}{a1:Bs}{a2 r:Int}(hE:Z108 a0 a1 a2=some r) (H:Heap) :AC Tryz.prog 69 [.agg (TDoc.c a0),.d (.str a1),.d (.int .i64 a2)] H fun v h'=>v=.a (.d (.int .i64 r))/\h'=H:=by
 unfold Z108 at hE;refine AC.oW 26 [.tmp 6] Tryz.call69 Tryz.func69 ?_;refine seqR (S BX (S As (nil ?_)));refine seqR (S Ld (S Mv ?_));obtain⟨x3,gx3,hE⟩:=bO hE;refine Sc rfl rfl (Z84_walk gx3) ?_;refine S Mv (S EX (S EX ?_));refine Sl ?_;refine Sf ?_;refine S As (nil ?_);refine freezeA 7 _ rfl (KA 1 (KA 2 (KA 8 Keeps.nil))) ?_;refine seqK fun K4 hK4=>?_;refine seqR (S Mv (S NB (S Mv (G0 Mv ?_))))
 obtain⟨x6,gx6,hE⟩:=gO hE;refine Gc1 18 rfl rfl rfl rfl rfl (fun hC=>Z88_walk (gx6 hC)) ?_;refine G1 19 rfl NB ?_;refine S PA (nil ?_);refine cE hE (fun hc7 hE=>?_) (fun hc7 hE=>?_)
 ·refine seqR (S As (nil ?_));exact rt hE
 refine sk hK4 ?_;clear hK4 K4;refine seqK fun K9 hK9=>?_;refine seqR (S Fv (S Ld (S Mv (S BI (nil ?_)))));refine cE hE (fun hc11 hE=>?_) (fun hc11 hE=>?_)
 ·refine seqR (S As (nil ?_));exact rt hE
 refine sk hK9 ?_;clear hK9 K9;refine seqR (S As (nil ?_));exact rt hE
def Z107_j2  :Option Bool:=some false
def Z107_l5 (a0:(Sl Bs)) (a1:Bs) :Nat->Nat->Option Bool
 | 0,_=>none
 | n5+1,s5_6=>bif (decide (((s5_6:Nat):Int)<((a0.l.length:Nat):Int))) then((a0.l[s5_6]?).bind fun x13=>bif ((x13==a1)) then(some true) else((Z107_l5 a0 a1 n5) (s5_6+1))) else(Z107_j2   )
def Z107 (a0:(Sl Bs)) (a1:Bs):Option Bool:=Z107_l5 a0 a1 (a0.l.length+1) 0
theorem Z107_walk {a0:Sl Bs}{a1:Bs}{w0:Option Nat}{r:Bool}(hE:Z107 a0 a1=some r) (H:Heap) :AC Tryz.prog 70 [.d (Sl.d 1 strE w0 a0),.d (.str a1)] H fun v h'=>v=.a (.d (.bool r))/\h'=H:=by
 unfold Z107 at hE;refine AC.oW 18 [.tmp 4] Tryz.call70 Tryz.func70 ?_;refine seqR (S As (nil ?_));refine seqJH kN (fun(z:Unit)=>[]) (fun z=>H) (fun z=>Z107_j2 =some r) ?_ ?_
 ·intro K2 hK2;refine seqR (S As (nil ?_));refine block ?_;refine loopH (TA 0 (TA 1 kN)) (fun(z:Nat×Nat)=>[(5,.a (.d (.int .i64 ((z.2:Nat):Int))))]) (fun z=>H) (fun z=>z.1) (fun z=>Z107_l5 a0 a1 z.1 z.2=some r) ((a0.l.length+1),0) hE wA ?_;rintro ⟨n5,s5_6⟩ hE K5 hK5;try dsimp only at hE
  cases n5 with
  | zero=>cases hE
  | succ n5 =>
    rw [Z107_l5] at hE;refine seqK fun K7 hK7=>?_;refine seqR (S Mv (S Mv ?_));refine sLen (f:=strE) (s:=a0) (TK rfl) rfl rfl rfl rfl fun hL9=>?_;refine S BI (nil ?_);refine cE hE (fun hc10 hE=>?_) (fun hc10 hE=>?_)
    ·try dsimp only at hc10
     have hf10:=oD hc10;refine sk hK7 ?_;clear hK7 K7;refine seqK fun K11 hK11=>?_;refine block ?_;refine seqR (S Mv (S Mv ?_));obtain⟨x13,gx13,hE⟩:=bO hE;refine S (ix strE s5_6 gx13) (S Ld (S Mv (S BS (nil ?_))));refine cE hE (fun hc14 hE=>?_) (fun hc14 hE=>?_)
     ·refine seqR (S As (nil ?_));exact rt hE
     refine sk hK11 ?_;clear hK11 K11;refine region ?_;refine S Mv ?_;refine SI ?_;refine S As (nil ?_);exact hK5 _ (n5,(s5_6+1)) wA hE (nS _)
    refine AWp.exit ?_;exact hK2 _ () wA hE
 rintro _ hE;try dsimp only at hE
 unfold Z107_j2 at hE;refine seqR (S As (nil ?_));exact rt hE
def Z58_j8  :Option Bool:=some true
def Z58_l11 (a0:(Sl Int)) (a1:(Sl Int)) :Nat->Nat->Option Bool
 | 0,_=>none
 | n11+1,s5_12=>bif (decide (((s5_12:Nat):Int)<((a0.l.length:Nat):Int))) then((a0.l[s5_12]?).bind fun x19=>(a1.l[s5_12]?).bind fun x20=>bif (!decide (x19=x20)) then(some false) else((Z58_l11 a0 a1 n11) (s5_12+1))) else(Z58_j8   )
def Z58 (a0:(Sl Int)) (a1:(Sl Int)):Option Bool:=bif (!decide (((a0.l.length:Nat):Int)=((a1.l.length:Nat):Int))) then(some false) else(Z58_l11 a0 a1 (a0.l.length+1) 0)
theorem Z58_walk {a0 a1:Sl Int}{w0 w1:Option Nat}{r:Bool}(hE:Z58 a0 a1=some r) (H:Heap) :AC Tryz.prog 81 [.d (Sl.d 1 (intE .i64) w0 a0),.d (Sl.d 1 (intE .i64) w1 a1)] H fun v h'=>v=.a (.d (.bool r))/\h'=H:=by
 unfold Z58 at hE;refine AC.oW 26 [.tmp 4] Tryz.call81 Tryz.func81 ?_;refine seqR (S As (nil ?_));refine seqK fun K2 hK2=>?_;refine seqR (S Mv ?_);refine sLen (f:=(intE .i64)) (s:=a0) (TK rfl) rfl rfl rfl rfl fun hL4=>?_;refine S Mv ?_;refine sLen (f:=(intE .i64)) (s:=a1) (TK rfl) rfl rfl rfl rfl fun hL5=>?_;refine S BI (nil ?_);refine cE hE (fun hc6 hE=>?_) (fun hc6 hE=>?_)
 ·refine seqR (S As (nil ?_));exact rt hE
 refine sk hK2 ?_;clear hK2 K2;refine seqJH kN (fun(z:Unit)=>[]) (fun z=>H) (fun z=>Z58_j8 =some r) ?_ ?_
 ·intro K8 hK8;refine seqR (S As (nil ?_));refine block ?_;refine loopH (TA 0 (TA 1 kN)) (fun(z:Nat×Nat)=>[(5,.a (.d (.int .i64 ((z.2:Nat):Int))))]) (fun z=>H) (fun z=>z.1) (fun z=>Z58_l11 a0 a1 z.1 z.2=some r) ((a0.l.length+1),0) hE wA ?_;rintro ⟨n11,s5_12⟩ hE K11 hK11;try dsimp only at hE
  cases n11 with
  | zero=>cases hE
  | succ n11 =>
    rw [Z58_l11] at hE;refine seqK fun K13 hK13=>?_;refine seqR (S Mv (S Mv ?_));refine sLen (f:=(intE .i64)) (s:=a0) (TK rfl) rfl rfl rfl rfl fun hL15=>?_;refine S BI (nil ?_);refine cE hE (fun hc16 hE=>?_) (fun hc16 hE=>?_)
    ·try dsimp only at hc16
     have hf16:=oD hc16;refine sk hK13 ?_;clear hK13 K13;refine seqK fun K17 hK17=>?_;refine block ?_;refine AWp.seqD (Sd Mv (Sd Mv ?_));obtain⟨x19,gx19,hE⟩:=bO hE;refine Sd (ix (intE .i64) s5_12 gx19) ?_;refine Sd Ld (Sd Mv (Sd Mv ?_));obtain⟨x20,gx20,hE⟩:=bO hE;refine Sd (ix (intE .i64) s5_12 gx20) ?_;refine Sd Ld (Sd BI ?_);refine DOps.nil (by decide +kernel) ?_;refine cE hE (fun hc21 hE=>?_) (fun hc21 hE=>?_)
     ·refine seqR (S As (nil ?_));exact rt hE
     refine sk hK17 ?_;clear hK17 K17;refine region ?_;refine S Mv ?_;refine SI ?_;refine S As (nil ?_);exact hK11 _ (n11,(s5_12+1)) wA hE (nS _)
    refine AWp.exit ?_;exact hK8 _ () wA hE
 rintro _ hE;try dsimp only at hE
 unfold Z58_j8 at hE;refine seqR (S As (nil ?_));exact rt hE
def Z56 (a0:TRef) (a1:TRef):Option Bool:=guardO (((a0.FName==a1.FName))) (Z58 a0.FWraps a1.FWraps) false fun x3=>some (((a0.FName==a1.FName))&&x3)
theorem Z56_walk {a0 a1:TRef}{r:Bool}(hE:Z56 a0 a1=some r) (H:Heap) :AC Tryz.prog 46 [.agg (TRef.c a0),.agg (TRef.c a1)] H fun v h'=>v=.a (.d (.bool r))/\h'=H:=by
 unfold Z56 at hE;refine AC.oW 17 [.tmp 4] Tryz.call46 Tryz.func46 ?_;refine seqR (S BX (S BX (S As (nil ?_))));refine seqR (S Fv (S Ld (S Fv (S Ld (S BS (S Mv (G0 Fv ?_)))))));refine G1 11 rfl Ld ?_;refine G0 Fv ?_;refine G1 13 rfl Ld ?_;obtain⟨x3,gx3,hE⟩:=gO hE;refine Gc2 12 14 rfl rfl rfl rfl rfl rfl (fun hC=>Z58_walk (gx3 hC)) ?_;refine S PA (S As (nil ?_));exact rt hE
def Z53 (a0:TRef):Option Bool:=guardO ((decide ((0:Int)<((a0.FWraps.l.length:Nat):Int)))) (a0.FWraps.l[0]?) (0:Int) fun x4=>some ((decide ((0:Int)<((a0.FWraps.l.length:Nat):Int)))&&(decide (x4=(1:Int))))
theorem Z53_walk {a0:TRef}{r:Bool}(hE:Z53 a0=some r) (H:Heap) :AC Tryz.prog 105 [.agg (TRef.c a0)] H fun v h'=>v=.a (.d (.bool r))/\h'=H:=by
 unfold Z53 at hE;refine AC.oW 14 [.tmp 2] Tryz.call105 Tryz.func105 ?_;refine seqR (S BX (S As (nil ?_)));refine seqR (S Fv (S Ld ?_));refine sLen (f:=(intE .i64)) (s:=a0.FWraps) (TK rfl) rfl rfl rfl rfl fun hL3=>?_;refine S BI (S Mv (G0 Fv ?_));refine G1 8 rfl Ld ?_;obtain⟨x4,gx4,hE⟩:=gO hE;refine gC rfl rfl (fun hC=>ungdA (k:=9) rfl (idxMn (f:=(intE .i64)) (n:=0) (TK rfl) rfl (TK rfl) rfl rfl rfl (gx4 hC))) rfl ?_
 refine G1 10 rfl Ld ?_;refine G1 11 rfl BI ?_;refine S PA (S As (nil ?_));exact rt hE
def Z57 (a0:TRef):Option TRef:=(partC a0.FWraps (some (1:Int)) none).bind fun x3=>(appC 8 (⟨false,[]⟩:Sl Int) x3).bind fun x4=>some (TRef.mk a0.FName x4)
theorem Z57_walk {a0 r:TRef}(hE:Z57 a0=some r) (H:Heap) :AC Tryz.prog 155 [.agg (TRef.c a0)] H fun v h'=>v=.a (.agg (TRef.c r))/\h'=H:=by
 unfold Z57 at hE;refine AC.oW 11 [.cell 2 37] Tryz.call155 Tryz.func155 ?_;refine seqR (S BX ?_);refine Sl ?_;refine nil ?_;refine AWp.seqD (Sd Fv (Sd Ld ?_));refine DOps.s0 (buildSliceF (TK rfl) rfl (TK rfl) rfl rfl rfl rfl rfl rfl) rfl ?_;refine Sd Fv (Sd Ld ?_);obtain⟨x3,gx3,hE⟩:=bO hE;refine DOps.s0 (partM (f:=(intE .i64)) (l:=(some (1:Int))) (r:=none) (TK rfl) rfl (TK rfl) rfl rfl rfl trivial gx3) rfl ?_
 obtain⟨x4,gx4,hE⟩:=bO hE;refine DOps.s0 (appFM (f:=(intE .i64)) (TK rfl) rfl (TK rfl) (TK rfl) ⟨_,rfl⟩ rfl rfl (by decide) rfl rfl rfl (by intro q h; cases h<;>decide) rfl rfl gx4) rfl ?_;refine Sd BU ?_;refine DOps.sLn (storeLFA (TK rfl) rfl rfl rfl rfl rfl) ?_;refine DOps.nil (by decide +kernel) ?_;exact rt hE
def Z54 (a0:TRef):Option TRef:=(Z53 a0).bind fun x4=>bif x4 then((Z57 a0).bind fun x7=>some x7) else((appC 8 (⟨false,[]⟩:Sl Int) a0.FWraps).bind fun x9=>some (TRef.mk a0.FName x9))
theorem Z54_walk {a0 r:TRef}(hE:Z54 a0=some r) (H:Heap) :AC Tryz.prog 126 [.agg (TRef.c a0)] H fun v h'=>v=.a (.agg (TRef.c r))/\h'=H:=by
 unfold Z54 at hE;refine AC.oW 14 [.cell 2 37] Tryz.call126 Tryz.func126 ?_;refine seqR (S BX ?_);refine Sl ?_;refine nil ?_;refine seqK fun K2 hK2=>?_;refine seqR (S Ld ?_);obtain⟨x4,gx4,hE⟩:=bO hE;refine Sc rfl rfl (Z53_walk gx4) ?_;refine nil ?_;refine cE hE (fun hc5 hE=>?_) (fun hc5 hE=>?_)
 ·refine seqR (S Ld ?_);obtain⟨x7,gx7,hE⟩:=bO hE;refine Sc rfl rfl (Z57_walk gx7) ?_;refine Sf ?_;refine nil ?_;exact rt hE
 refine sk hK2 ?_;clear hK2 K2;refine AWp.seqD (Sd Fv (Sd Ld ?_));refine DOps.s0 (buildSliceF (TK rfl) rfl (TK rfl) rfl rfl rfl rfl rfl rfl) rfl ?_;refine Sd Fv (Sd Ld ?_);obtain⟨x9,gx9,hE⟩:=bO hE;refine DOps.s0 (appFM (f:=(intE .i64)) (TK rfl) rfl (TK rfl) (TK rfl) ⟨_,rfl⟩ rfl rfl (by decide) rfl rfl rfl (by intro q h; cases h<;>decide) rfl rfl gx9) rfl ?_;refine Sd BU ?_;refine DOps.sLn (storeLFA (TK rfl) rfl rfl rfl rfl rfl) ?_
 refine DOps.nil (by decide +kernel) ?_;exact rt hE
def Z52 (a0:TRef):Option Bool:=(Z54 a0).bind fun x3=>guardO ((decide ((0:Int)<((x3.FWraps.l.length:Nat):Int)))) (x3.FWraps.l[0]?) (0:Int) fun x6=>some ((decide ((0:Int)<((x3.FWraps.l.length:Nat):Int)))&&(decide (x6=(2:Int))))
theorem Z52_walk {a0:TRef}{r:Bool}(hE:Z52 a0=some r) (H:Heap) :AC Tryz.prog 156 [.agg (TRef.c a0)] H fun v h'=>v=.a (.d (.bool r))/\h'=H:=by
 unfold Z52 at hE;refine AC.oW 17 [.tmp 2] Tryz.call156 Tryz.func156 ?_;refine seqR (S BX (S As (nil ?_)));refine seqR (S Ld ?_);obtain⟨x3,gx3,hE⟩:=bO hE;refine Sc rfl rfl (Z54_walk gx3) ?_;refine Sl ?_;refine Sf ?_;refine nil ?_;refine freezeA 3 _ rfl Keeps.nil ?_;refine seqR (S Fv (S Ld ?_));refine sLen (f:=(intE .i64)) (s:=x3.FWraps) (TK rfl) rfl rfl rfl rfl fun hL5=>?_;refine S BI (S Mv (G0 Fv ?_))
 refine G1 11 rfl Ld ?_;obtain⟨x6,gx6,hE⟩:=gO hE;refine gC rfl rfl (fun hC=>ungdA (k:=12) rfl (idxMn (f:=(intE .i64)) (n:=0) (TK rfl) rfl (TK rfl) rfl rfl rfl (gx6 hC))) rfl ?_;refine G1 13 rfl Ld ?_;refine G1 14 rfl BI ?_;refine S PA (S As (nil ?_));exact rt hE
def Z51 (a0:TRef):Option (TRef×Bool):=(Z52 a0).bind fun x4=>bif (!x4) then(some ((TRef.mk ([]:Bs) (Sl.nil:Sl Int)),false)) else((Z54 a0).bind fun x8=>(Z57 x8).bind fun x9=>some (x9,true))
theorem Z51_walk {a0:TRef}{r:TRef×Bool}(hE:Z51 a0=some r) (H:Heap) :AC Tryz.prog 127 [.agg (TRef.c a0)] H fun v h'=>v=.tup [.agg (TRef.c r.1),.d (.bool r.2)]/\h'=H:=by
 unfold Z51 at hE;refine AC.oW 11 [.cell 2 37,.tmp 3] Tryz.call127 Tryz.func127 ?_;refine seqR (S BX ?_);refine Sl ?_;refine S As (nil ?_);refine seqK fun K2 hK2=>?_;refine seqR (S Ld ?_);obtain⟨x4,gx4,hE⟩:=bO hE;refine Sc rfl rfl (Z52_walk gx4) ?_;refine S NB (nil ?_);refine cE hE (fun hc5 hE=>?_) (fun hc5 hE=>?_)
 ·refine seqR (S BU ?_);refine Sf ?_;refine S As (nil ?_);exact rt hE
 refine sk hK2 ?_;clear hK2 K2;refine seqR (S Ld ?_);obtain⟨x8,gx8,hE⟩:=bO hE;refine Sc rfl rfl (Z54_walk gx8) ?_;obtain⟨x9,gx9,hE⟩:=bO hE;refine Sc rfl rfl (Z57_walk gx9) ?_;refine Sf ?_;refine S As (nil ?_);exact rt hE
end Go.Proofs

namespace Go.Proofs
open Go Go.Ab
open AOps Cert AWp Keeps KeepsT
variable {lou:Lou}
def Z109_j2  :Option Bool:=some false
def Z109_l5 (a0:TDef) (a1:Bs) :Nat->Nat->Option Bool
 | 0,_=>none
 | n5+1,s5_6=>bif (decide (((s5_6:Nat):Int)<((a0.FMembers.l.length:Nat):Int))) then((a0.FMembers.l[s5_6]?).bind fun x13=>bif ((x13.FName==a1)) then(some true) else((Z109_l5 a0 a1 n5) (s5_6+1))) else(Z109_j2   )
def Z109 (a0:TDef) (a1:Bs):Option Bool:=Z109_l5 a0 a1 (a0.FMembers.l.length+1) 0
theorem Z109_walk {a0:TDef}{a1:Bs}{r:Bool}(hE:Z109 a0 a1=some r) (H:Heap) :AC Tryz.prog 72 [.agg (TDef.c a0),.d (.str a1)] H fun v h'=>v=.a (.d (.bool r))/\h'=H:=by
 unfold Z109 at hE;refine AC.oW 21 [.tmp 4] Tryz.call72 Tryz.func72 ?_;refine seqR (S BX (S As (nil ?_)));refine seqJH kN (fun(z:Unit)=>[]) (fun z=>H) (fun z=>Z109_j2 =some r) ?_ ?_
 ·intro K2 hK2;refine seqR (S As (nil ?_));refine block ?_;refine loopH (TA 1 (TA 2 kN)) (fun(z:Nat×Nat)=>[(5,.a (.d (.int .i64 ((z.2:Nat):Int))))]) (fun z=>H) (fun z=>z.1) (fun z=>Z109_l5 a0 a1 z.1 z.2=some r) ((a0.FMembers.l.length+1),0) hE wA ?_;rintro ⟨n5,s5_6⟩ hE K5 hK5;try dsimp only at hE
  cases n5 with
  | zero=>cases hE
  | succ n5 =>
    rw [Z109_l5] at hE;refine seqK fun K7 hK7=>?_;refine seqR (S Mv (S Fv (S Ld ?_)));refine sLen (f:=Z6.c) (s:=a0.FMembers) (TK rfl) rfl rfl rfl rfl fun hL9=>?_;refine S BI (nil ?_);refine cE hE (fun hc10 hE=>?_) (fun hc10 hE=>?_)
    ·try dsimp only at hc10
     have hf10:=oD hc10;refine sk hK7 ?_;clear hK7 K7;refine seqK fun K11 hK11=>?_;refine block ?_;refine seqR (S Fv (S Ld (S Mv ?_)));obtain⟨x13,gx13,hE⟩:=bO hE;refine S (ix Z6.c s5_6 gx13) (S Fv (S Ld (S Mv (S BS (nil ?_)))));refine cE hE (fun hc14 hE=>?_) (fun hc14 hE=>?_)
     ·refine seqR (S As (nil ?_));exact rt hE
     refine sk hK11 ?_;clear hK11 K11;refine region ?_;refine S Mv ?_;refine SI ?_;refine S As (nil ?_);exact hK5 _ (n5,(s5_6+1)) wA hE (nS _)
    refine AWp.exit ?_;exact hK2 _ () wA hE
 rintro _ hE;try dsimp only at hE
 unfold Z109_j2 at hE;refine seqR (S As (nil ?_));exact rt hE
def Z106_j2  :Option Bool:=some true
def Z106_l5 (a0:TDoc) (a1:Int) :Nat->Int->Option Bool
 | 0,_=>none
 | n5+1,s5_6=>bif (decide (s5_6<a1)) then((idxC a0.FDefs.l s5_6).bind fun x12=>(idxC a0.FDefs.l a1).bind fun x13=>bif ((x12.FName==x13.FName)) then(some false) else((addC s5_6 (1:Int)).bind fun x16=>(Z106_l5 a0 a1 n5) x16)) else(Z106_j2   )
def Z106 (a0:TDoc) (a1:Int):Option Bool:=Z106_l5 a0 a1 F0 (0:Int)
theorem Z106_walk {a0:TDoc}{a1:Int}{r:Bool}(hE:Z106 a0 a1=some r) (H:Heap) :AC Tryz.prog 180 [.agg (TDoc.c a0),.d (.int .i64 a1)] H fun v h'=>v=.a (.d (.bool r))/\h'=H:=by
 unfold Z106 at hE;refine AC.oW 24 [.tmp 4] Tryz.call180 Tryz.func180 ?_;refine seqR (S BX (S As (nil ?_)));refine seqJH kN (fun(z:Unit)=>[]) (fun z=>H) (fun z=>Z106_j2 =some r) ?_ ?_
 ·intro K2 hK2;refine seqR (S As (nil ?_));refine block ?_;refine loopH (TA 1 (TA 2 kN)) (fun(z:Nat×Int)=>[(5,.a (.d (.int .i64 z.2)))]) (fun z=>H) (fun z=>z.1) (fun z=>Z106_l5 a0 a1 z.1 z.2=some r) (F0,(0:Int)) hE wA ?_;rintro ⟨n5,s5_6⟩ hE K5 hK5;try dsimp only at hE
  cases n5 with
  | zero=>cases hE
  | succ n5 =>
    rw [Z106_l5] at hE;refine seqK fun K7 hK7=>?_;refine seqR (S Mv (S Mv (S BI (nil ?_))));refine cE hE (fun hc9 hE=>?_) (fun hc9 hE=>?_)
    ·refine sk hK7 ?_;clear hK7 K7;refine seqK fun K10 hK10=>?_;refine block ?_;refine AWp.seqD (Sd Fv (Sd Ld (Sd Mv ?_)));obtain⟨x12,gx12,hE⟩:=bO hE;refine DOps.s0 (idxM (f:=TDef.c) (TK rfl) rfl (TK rfl) rfl rfl rfl gx12) rfl ?_;refine Sd Fv (Sd Ld (Sd Fv (Sd Ld (Sd Mv ?_))));obtain⟨x13,gx13,hE⟩:=bO hE;refine DOps.s0 (idxM (f:=TDef.c) (TK rfl) rfl (TK rfl) rfl rfl rfl gx13) rfl ?_;refine Sd Fv (Sd Ld (Sd BS ?_))
     refine DOps.nil (by decide +kernel) ?_;refine cE hE (fun hc14 hE=>?_) (fun hc14 hE=>?_)
     ·refine seqR (S As (nil ?_));exact rt hE
     refine sk hK10 ?_;clear hK10 K10;refine region ?_;refine S Mv ?_;obtain⟨x16,gx16,hE⟩:=bO hE;refine s0 (addM rfl rfl gx16) rfl ?_;refine S As (nil ?_);exact hK5 _ (n5,x16) wA hE (nS _)
    refine AWp.exit ?_;exact hK2 _ () wA hE
 rintro _ hE;try dsimp only at hE
 unfold Z106_j2 at hE;refine seqR (S As (nil ?_));exact rt hE
def Z103_j5  (s5_6:(Sl Bs)):Option (Sl Bs):=some s5_6
def Z103_j16 (s8_11:Nat) (k_next_9:(Sl Bs)->Nat->Option (Sl Bs)) (s5_17:(Sl Bs)):Option (Sl Bs):=k_next_9 s5_17 (s8_11+1)
def Z103_l9 (a0:TDoc) (a1:Bs) (x4:(TDef×Bool)) :Nat->(Sl Bs)->Nat->Option (Sl Bs)
 | 0,_,_=>none
 | n9+1,s5_10,s8_11=>bif ((decide (((s8_11:Nat):Int)<((a0.FDefs.l.length:Nat):Int)))&&x4.2) then((a0.FDefs.l[s8_11]?).bind fun x19=>guardO (!(!decide (x19.FKind=(1:Int)))) (Z106 a0 ((s8_11:Nat):Int)) false fun x22=>bif ((!decide (x19.FKind=(1:Int)))||(!x22)) then(Z103_j16 s8_11 ((Z103_l9 a0 a1 x4 n9)) s5_10) else(guardO ((!((decide (x4.1.FKind=(1:Int)))&&((x19.FName==a1)))&&(decide (x4.1.FKind=(2:Int))))) (Z107 x19.FImplements a1) false fun x26=>guardO ((!(((decide (x4.1.FKind=(1:Int)))&&((x19.FName==a1)))||((decide (x4.1.FKind=(2:Int)))&&x26))&&(decide (x4.1.FKind=(3:Int))))) (Z109 x4.1 x19.FName) false fun x28=>bif ((((decide (x4.1.FKind=(1:Int)))&&((x19.FName==a1)))||((decide (x4.1.FKind=(2:Int)))&&x26))||((decide (x4.1.FKind=(3:Int)))&&x28)) then((appC 16 s5_10 (⟨false,[x19.FName]⟩:Sl Bs)).bind fun x31=>Z103_j16 s8_11 ((Z103_l9 a0 a1 x4 n9)) x31) else(Z103_j16 s8_11 ((Z103_l9 a0 a1 x4 n9)) s5_10))) else(Z103_j5   s5_10)
def Z103 (a0:TDoc) (a1:Bs):Option (Sl Bs):=(Z84 a0 a1).bind fun x4=>Z103_l9 a0 a1 x4 (a0.FDefs.l.length+1) (Sl.nil:Sl Bs) 0
theorem Z103_walk {a0:TDoc}{a1:Bs}{r:Sl Bs}(hE:Z103 a0 a1=some r) (H:Heap) :AC Tryz.prog 157 [.agg (TDoc.c a0),.d (.str a1)] H fun v h'=>v=.a (.d (Sl.d 1 strE none r))/\h'=H:=by
 unfold Z103 at hE;refine AC.oW 81 [.tmp 4] Tryz.call157 Tryz.func157 ?_;refine AWp.tok 1 fun tk1 htk1=>?_;refine seqR (S BX ?_);refine s0 (assignNil (k':=1) rfl) rfl ?_;refine nil ?_;refine seqR (S As (nil ?_));refine AWp.nilTok 5 1 tk1 rfl hpG ?_;refine seqR (S Ld (S Mv ?_));obtain⟨x4,gx4,hE⟩:=bO hE;refine Sc rfl rfl (Z84_walk gx4) ?_;refine S Mv (S EX (S EX ?_));refine Sl ?_;refine Sf ?_;refine S As (nil ?_)
 refine freezeA 6 _ rfl (KA 1 (KA 2 (KA 5 (KA 7 Keeps.nil)))) ?_;refine seqJH kN (fun(z:(Sl Bs))=>[(5,.a (.d (Sl.d 1 strE (some tk1) z)))]) (fun z=>(H.set tk1 (some (.tok 1 z.l.length)))) (fun z=>Z103_j5 z=some r) ?_ ?_
 ·intro K5 hK5;refine seqR (S As (nil ?_));refine block ?_;refine loopH (TA 1 (TA 2 (TA 6 (TA 7 kN)))) (fun(z:Nat×(Sl Bs)×Nat)=>[(5,.a (.d (Sl.d 1 strE (some tk1) z.2.1))),(8,.a (.d (.int .i64 ((z.2.2:Nat):Int))))]) (fun z=>(H.set tk1 (some (.tok 1 z.2.1.l.length)))) (fun z=>z.1) (fun z=>Z103_l9 a0 a1 x4 z.1 z.2.1 z.2.2=some r) ((a0.FDefs.l.length+1),(Sl.nil:Sl Bs),0) hE wA ?_;rintro ⟨n9,s5_10,s8_11⟩ hE K9 hK9
  try dsimp only at hE
  cases n9 with
  | zero=>cases hE
  | succ n9 =>
    rw [Z103_l9] at hE;refine seqK fun K12 hK12=>?_;refine seqR (S Mv (S Fv (S Ld ?_)));refine sLen (f:=TDef.c) (s:=a0.FDefs) (TK rfl) rfl rfl rfl rfl fun hL14=>?_;refine S BI (S Mv (G0 Mv (S PA (nil ?_))));refine cE hE (fun hc15 hE=>?_) (fun hc15 hE=>?_)
    ·try dsimp only at hc15
     have hf15:=oD (and_left hc15);refine sk hK12 ?_;clear hK12 K12;refine seqJH (TA 1 (TA 2 (TA 6 (TA 7 (TA 8 kN))))) (fun(z:(Sl Bs))=>[(5,.a (.d (Sl.d 1 strE (some tk1) z)))]) (fun z=>(H.set tk1 (some (.tok 1 z.l.length)))) (fun z=>Z103_j16 s8_11 ((Z103_l9 a0 a1 x4 n9)) z=some r) ?_ ?_
     ·intro K16 hK16;refine block ?_;refine seqR (S Fv (S Ld (S Mv ?_)));obtain⟨x19,gx19,hE⟩:=bO hE;refine S (ix TDef.c s8_11 gx19) (S Ld ?_);refine Sl ?_;refine Sf ?_;refine nil ?_;refine freezeA 9 _ rfl (KA 1 (KA 2 (KA 5 (KA 6 (KA 7 (KA 8 Keeps.nil)))))) ?_;refine seqK fun K20 hK20=>?_;refine seqR (S Fv (S Ld (S BI (S Mv (G0 Ld (G0 Mv ?_))))));obtain⟨x22,gx22,hE⟩:=gO hE;refine Gc2 36 37 rfl rfl rfl rfl rfl rfl (fun hC=>Z106_walk (gx22 hC)) ?_
      refine G1 38 rfl NB ?_;refine S PO (nil ?_);refine cE hE (fun hc23 hE=>?_) (fun hc23 hE=>?_)
      ·refine AWp.exit ?_;exact hK16 _ s5_10 wA hE
      refine sk hK20 ?_;clear hK20 K20;refine seqR (S Fv (S Ld (S BI (S Mv (G0 Fv ?_)))));refine G1 45 rfl Ld ?_;refine G0 Mv ?_;refine G2 46 47 rfl rfl BS ?_;refine S PA (S As (nil ?_));refine seqR (S Mv (S Mv (G0 Fv ?_)));refine G1 52 rfl Ld ?_;refine G1 53 rfl BI ?_;refine G1 54 rfl Mv ?_;refine G0 Fv ?_;refine G1 56 rfl Ld ?_;refine G0 Mv ?_;obtain⟨x26,gx26,hE⟩:=gO hE;refine Gc2 57 58 rfl rfl rfl rfl rfl rfl (fun hC=>Z107_walk (gx26 hC)) ?_
      refine gC rfl rfl (fun hC=>ungdA (k:=55) rfl (pickAndA rfl rfl rfl)) rfl ?_;refine S PO (S As (nil ?_));refine seqR (S Mv (S Mv (G0 Fv ?_)));refine G1 64 rfl Ld ?_;refine G1 65 rfl BI ?_;refine G1 66 rfl Mv ?_;refine G0 Ld (G0 Fv ?_);refine G1 69 rfl Ld ?_;obtain⟨x28,gx28,hE⟩:=gO hE;refine Gc2 68 70 rfl rfl rfl rfl rfl rfl (fun hC=>Z109_walk (gx28 hC)) ?_;refine gC rfl rfl (fun hC=>ungdA (k:=67) rfl (pickAndA rfl rfl rfl)) rfl ?_
      refine S PO (S As (nil ?_));refine seqR (S Mv (nil ?_));refine cE hE (fun hc30 hE=>?_) (fun hc30 hE=>?_)
      ·refine region ?_;refine S Mv (S Fv (S Ld (S BV ?_)));obtain⟨x31,gx31,hE⟩:=bO hE;refine SH (am strE (TK rfl) rfl (TK rfl) (TK rfl) gx31) ?_;refine hq (H.set tk1 (some (.tok 1 x31.l.length))) ?_;refine S As (nil ?_);exact hK16 _ x31 wA hE
      refine AWp.skip ?_;exact hK16 _ s5_10 wA hE
     rintro s5_17 hE;try dsimp only at hE
     unfold Z103_j16 at hE;refine region ?_;refine S Mv ?_;refine SI ?_;refine S As (nil ?_);exact hK9 _ (n9,s5_17,(s8_11+1)) wA hE (nS _)
    refine AWp.exit ?_;exact hK5 _ s5_10 wA hE
 rintro s5_6 hE;try dsimp only at hE
 unfold Z103_j5 at hE;refine seqR (S Mv (S As (nil ?_)));refine AWp.dropTok 4 rfl ?_;refine AWp.ret ?_;repeat (first|refine xBlock_ret ?_|refine xThen_ret ?_)
 obtain rfl:=oJ hE;refine retQ.retF H rfl ⟨rfl,rfl⟩ ?_
 first|exact Heap.sub_set htk1|(simp only [Heap.set_set]; exact Heap.sub_set htk1)
def Z102 (a0:TDoc) (a1:Bs) (a2:Bs):Option Bool:=(Z103 a0 a2).bind fun x3=>(Z107 x3 a1).bind fun x4=>some x4
theorem Z102_walk {a0:TDoc}{a1 a2:Bs}{r:Bool}(hE:Z102 a0 a1 a2=some r) (H:Heap) :AC Tryz.prog 128 [.agg (TDoc.c a0),.d (.str a1),.d (.str a2)] H fun v h'=>v=.a (.d (.bool r))/\h'=H:=by
 unfold Z102 at hE;refine AC.oW 12 [.tmp 6] Tryz.call128 Tryz.func128 ?_;refine seqR (S BX (S As (nil ?_)));refine seqR (S Ld (S Mv ?_));obtain⟨x3,gx3,hE⟩:=bO hE;refine Sc rfl rfl (Z103_walk gx3) ?_;refine S Mv ?_;obtain⟨x4,gx4,hE⟩:=bO hE;refine Sc rfl rfl (Z107_walk gx4) ?_;refine S As (nil ?_);exact rt hE
def Z104_n:Nat->TDoc->TRef->TRef->Option Bool
 | 0,_,_,_=>none
 | n+1,a0,a1,a2=>(Z53 a2).bind fun x4=>bif x4 then((Z53 a1).bind fun x7=>guardO (x7) (Z54 a1) TRef.zero fun x8=>guardO (x7) (Z54 a2) TRef.zero fun x9=>guardO (x7) ((Z104_n n) a0 x8 x9) false fun x10=>some (x7&&x10)) else((Z53 a1).bind fun x13=>bif x13 then((Z54 a1).bind fun x16=>((Z104_n n) a0 x16 a2).bind fun x17=>some x17) else((Z51 a1).bind fun x19=>(Z51 a2).bind fun x21=>bif (x19.2&&x21.2) then(((Z104_n n) a0 x19.1 x21.1).bind fun x26=>some x26) else(guardO ((((!x19.2)&&(!x21.2))&&!((a1.FName==a2.FName)))) (Z102 a0 a1.FName a2.FName) false fun x28=>some (((!x19.2)&&(!x21.2))&&(((a1.FName==a2.FName))||x28)))))
theorem Z104_step (n:Nat) (ih_104:∀{a0:TDoc}{a1 a2:TRef}{r:Bool},Z104_n n a0 a1 a2=some r->∀(H:Heap),AC Tryz.prog 104 [.agg (TDoc.c a0),.agg (TRef.c a1),.agg (TRef.c a2)] H fun v h'=>v=.a (.d (.bool r))/\h'=H):∀{a0:TDoc}{a1 a2:TRef}{r:Bool},Z104_n (n+1) a0 a1 a2=some r->∀(H:Heap),AC Tryz.prog 104 [.agg (TDoc.c a0),.agg (TRef.c a1),.agg (TRef.c a2)] H fun v h'=>v=.a (.d (.bool r))/\h'=H:=by
 intro a0 a1 a2   r hE H ;rw [Z104_n] at hE;refine AC.oW 69 [.tmp 6] Tryz.call104 Tryz.func104 ?_;refine seqR (S BX (S BX (S BX (S As (nil ?_)))));refine seqK fun K2 hK2=>?_;refine seqR (S Ld ?_);obtain⟨x4,gx4,hE⟩:=bO hE;refine Sc rfl rfl (Z53_walk gx4) ?_;refine nil ?_;refine cE hE (fun hc5 hE=>?_) (fun hc5 hE=>?_)
 ·refine AWp.seqD (Sd Ld ?_);obtain⟨x7,gx7,hE⟩:=bO hE;refine Scd rfl rfl (Z53_walk gx7) ?_;refine Sd Mv (G0d Ld (G0d Ld ?_));obtain⟨x8,gx8,hE⟩:=gO hE;refine Gc1d 17 rfl rfl rfl rfl rfl (fun hC=>Z54_walk (gx8 hC)) ?_;refine G0d Ld ?_;obtain⟨x9,gx9,hE⟩:=gO hE;refine Gc1d 19 rfl rfl rfl rfl rfl (fun hC=>Z54_walk (gx9 hC)) ?_;obtain⟨x10,gx10,hE⟩:=gO hE;refine DOps.gC rfl rfl (fun hC=>ungdA (k:=16) rfl (ungdA (k:=18) rfl (ungdA (k:=20) rfl (callP rfl rfl (fun H=>ih_104 (gx10 hC) H))))) rfl ?_
  refine Sd PA (Sd As ?_);refine DOps.nil (by decide +kernel) ?_;exact rt hE
 refine sk hK2 ?_;clear hK2 K2;refine seqK fun K11 hK11=>?_;refine seqR (S Ld ?_);obtain⟨x13,gx13,hE⟩:=bO hE;refine Sc rfl rfl (Z53_walk gx13) ?_;refine nil ?_;refine cE hE (fun hc14 hE=>?_) (fun hc14 hE=>?_)
 ·refine AWp.seqD (Sd Ld (Sd Ld ?_));obtain⟨x16,gx16,hE⟩:=bO hE;refine Scd rfl rfl (Z54_walk gx16) ?_;refine Sd Ld ?_;obtain⟨x17,gx17,hE⟩:=bO hE;refine Scd rfl rfl (ih_104 gx17) ?_;refine Sd As ?_;refine DOps.nil (by decide +kernel) ?_;exact rt hE
 refine sk hK11 ?_;clear hK11 K11;refine seqR (S Ld ?_);obtain⟨x19,gx19,hE⟩:=bO hE;refine Sc rfl rfl (Z51_walk gx19) ?_;refine S Mv (S EX (S EX ?_));refine Sl ?_;refine Sf ?_;refine S As (nil ?_);refine freezeA 7 _ rfl (KA 3 (KA 4 (KA 5 (KA 8 Keeps.nil)))) ?_;refine seqR (S Ld ?_);obtain⟨x21,gx21,hE⟩:=bO hE;refine Sc rfl rfl (Z51_walk gx21) ?_;refine S Mv (S EX (S EX ?_));refine Sl ?_;refine Sf ?_
 refine S As (nil ?_);refine freezeA 9 _ rfl (KA 3 (KA 4 (KA 5 (KA 7 (KA 8 (KA 10 Keeps.nil)))))) ?_;refine seqK fun K22 hK22=>?_;refine seqR (S Mv (S Mv (G0 Mv (S PA (nil ?_)))));refine cE hE (fun hc24 hE=>?_) (fun hc24 hE=>?_)
 ·refine seqR (S Ld (S Ld (S Ld ?_)));obtain⟨x26,gx26,hE⟩:=bO hE;refine Sc rfl rfl (ih_104 gx26) ?_;refine S As (nil ?_);exact rt hE
 refine sk hK22 ?_;clear hK22 K22;refine seqR (S Mv (S NB (S Mv (G0 Mv ?_))));refine G1 51 rfl NB ?_;refine S PA (S Mv (G0 Fv ?_));refine G1 55 rfl Ld ?_;refine G0 Fv ?_;refine G1 57 rfl Ld ?_;refine G2 56 58 rfl rfl BS ?_;refine G1 59 rfl Mv ?_;refine G0 Ld (G0 Fv ?_);refine G1 62 rfl Ld ?_;refine G0 Fv ?_;refine G1 64 rfl Ld ?_;obtain⟨x28,gx28,hE⟩:=gO hE;refine gC rfl rfl (fun hC=>ungdA (k:=61) rfl (ungdA (k:=63) rfl (ungdA (k:=65) rfl (callP rfl rfl (fun H=>Z102_walk (gx28 hC) H))))) rfl ?_
 refine gC rfl rfl (fun hC=>ungdA (k:=60) rfl (pickOrA rfl rfl rfl)) rfl ?_;refine S PA (S As (nil ?_));exact rt hE
theorem Z104_all:∀(n:Nat),(∀{a0:TDoc}{a1 a2:TRef}{r:Bool},Z104_n n a0 a1 a2=some r->∀(H:Heap),AC Tryz.prog 104 [.agg (TDoc.c a0),.agg (TRef.c a1),.agg (TRef.c a2)] H fun v h'=>v=.a (.d (.bool r))/\h'=H)
 | 0=>fun hE=>by first|cases hE|(rw [Z104_n] at hE; cases hE)
 | n+1=>Z104_step n (Z104_all n)
def Z104 (a0:TDoc) (a1:TRef) (a2:TRef):Option Bool:=Z104_n F0 a0 a1 a2
theorem Z104_walk {a0:TDoc}{a1 a2:TRef}{r:Bool}(hE:Z104 a0 a1 a2=some r) (H:Heap) :AC Tryz.prog 104 [.agg (TDoc.c a0),.agg (TRef.c a1),.agg (TRef.c a2)] H fun v h'=>v=.a (.d (.bool r))/\h'=H:=(Z104_all F0) hE H 
end Go.Proofs

namespace Go.Proofs
open Go Go.Ab
open AOps Cert AWp Keeps KeepsT
variable {lou:Lou}
def Z105_j16  (s10_17:(Sl Z3)):Option (Sl Z3):=some s10_17
def Z105_j27 (s14_22:Nat) (k_next_20:(Sl Z3)->Nat->Option (Sl Z3)) (s10_28:(Sl Z3)):Option (Sl Z3):=k_next_20 s10_28 (s14_22+1)
def Z105_l20 (a2:Z4) (x4:Bs) (x6:(Z4×Bool)) :Nat->(Sl Z3)->Nat->Option (Sl Z3)
 | 0,_,_=>none
 | n20+1,s10_21,s14_22=>bif (decide (((s14_22:Nat):Int)<((x6.1.FArgs.l.length:Nat):Int))) then((x6.1.FArgs.l[s14_22]?).bind fun x30=>(Z85 a2.FArgs x30.FName).bind fun x31=>guardO ((!x31.2)) (x6.1.FArgs.l[s14_22]?) Z5.zero fun x33=>guardO ((!x31.2)) (Z53 x33.FType) false fun x34=>guardO (((!x31.2)&&x34)) (x6.1.FArgs.l[s14_22]?) Z5.zero fun x35=>bif (((!x31.2)&&x34)&&(!x35.FHas)) then((catC x4 ([40]:Bs)).bind fun x37=>(x6.1.FArgs.l[s14_22]?).bind fun x38=>(catC x37 x38.FName).bind fun x39=>(catC x39 ([41]:Bs)).bind fun x40=>(appC 24 s10_21 (⟨false,[(Z3.mk (22:Int) x40)]⟩:Sl Z3)).bind fun x41=>Z105_j27 s14_22 ((Z105_l20 a2 x4 x6 n20)) x41) else(Z105_j27 s14_22 ((Z105_l20 a2 x4 x6 n20)) s10_21)) else(Z105_j16   s10_21)
def Z105_j14 (a2:Z4) (x4:Bs) (x6:(Z4×Bool))  (s10_15:(Sl Z3)):Option (Sl Z3):=Z105_l20 a2 x4 x6 (x6.1.FArgs.l.length+1) s10_15 0
def Z105_j50 (s11_45:Nat) (k_next_43:(Sl Z3)->Nat->Option (Sl Z3)) (s10_51:(Sl Z3)):Option (Sl Z3):=k_next_43 s10_51 (s11_45+1)
def Z105_l43 (a2:Z4) (x4:Bs) (x6:(Z4×Bool)) :Nat->(Sl Z3)->Nat->Option (Sl Z3)
 | 0,_,_=>none
 | n43+1,s10_44,s11_45=>bif (decide (((s11_45:Nat):Int)<((a2.FArgs.l.length:Nat):Int))) then((a2.FArgs.l[s11_45]?).bind fun x53=>(Z85 x6.1.FArgs x53.FName).bind fun x54=>guardO (!(!x54.2)) (a2.FArgs.l[s11_45]?) Z5.zero fun x56=>guardO (!(!x54.2)) (Z56 x54.1.FType x56.FType) false fun x57=>bif ((!x54.2)||(!x57)) then((catC x4 ([40]:Bs)).bind fun x59=>(a2.FArgs.l[s11_45]?).bind fun x60=>(catC x59 x60.FName).bind fun x61=>(catC x61 ([41]:Bs)).bind fun x62=>(appC 24 s10_44 (⟨false,[(Z3.mk (22:Int) x62)]⟩:Sl Z3)).bind fun x63=>Z105_j50 s11_45 ((Z105_l43 a2 x4 x6 n43)) x63) else(Z105_j50 s11_45 ((Z105_l43 a2 x4 x6 n43)) s10_44)) else(Z105_j14 a2 x4 x6  s10_44)
def Z105_j12 (a2:Z4) (x4:Bs) (x6:(Z4×Bool))  (s10_13:(Sl Z3)):Option (Sl Z3):=Z105_l43 a2 x4 x6 (a2.FArgs.l.length+1) s10_13 0
def Z105 (a0:TDoc) (a1:TDef) (a2:Z4):Option (Sl Z3):=(catC a1.FName ([46]:Bs)).bind fun x3=>(catC x3 a2.FName).bind fun x4=>(Z83 a1 a2.FName).bind fun x6=>bif (!x6.2) then(some (⟨false,[(Z3.mk (20:Int) x4)]⟩:Sl Z3)) else((Z104 a0 x6.1.FType a2.FType).bind fun x65=>bif (!x65) then((appC 24 (Sl.nil:Sl Z3) (⟨false,[(Z3.mk (10:Int) x4)]⟩:Sl Z3)).bind fun x67=>Z105_j12 a2 x4 x6  x67) else(Z105_j12 a2 x4 x6  (Sl.nil:Sl Z3)))
theorem Z105_walk {a0:TDoc}{a1:TDef}{a2:Z4}{r:Sl Z3}(hE:Z105 a0 a1 a2=some r) (H:Heap) :AC Tryz.prog 71 [.agg (TDoc.c a0),.agg (TDef.c a1),.agg (Z4.c a2)] H fun v h'=>v=.a (.d (Sl.d 2 Z3.c none r))/\h'=H:=by
 unfold Z105 at hE;refine AC.oW 148 [.tmp 6] Tryz.call71 Tryz.func71 ?_;refine AWp.tok 2 fun tk1 htk1=>?_;refine seqR (S BX (S BX (S BX ?_)));refine s0 (assignNil (k':=2) rfl) rfl ?_;refine nil ?_;refine seqR (S Fv (S Ld ?_));obtain⟨x3,gx3,hE⟩:=bO hE;refine s0 (catM rfl rfl gx3) rfl ?_;refine S Fv (S Ld ?_);obtain⟨x4,gx4,hE⟩:=bO hE;refine s0 (catM rfl rfl gx4) rfl ?_;refine S As (nil ?_);refine seqR (S Ld (S Fv (S Ld ?_)))
 obtain⟨x6,gx6,hE⟩:=bO hE;refine Sc rfl rfl (Z83_walk gx6) ?_;refine S Mv (S EX (S EX ?_));refine Sl ?_;refine Sf ?_;refine S As (nil ?_);refine freezeA 8 _ rfl (KA 3 (KA 5 (KA 7 (KA 9 Keeps.nil)))) ?_;refine seqK fun K7 hK7=>?_;refine seqR (S Mv (S NB (nil ?_)));refine cE hE (fun hc9 hE=>?_) (fun hc9 hE=>?_)
 ·refine seqR (S Mv (S BU (S BV (S As (nil ?_)))));refine AWp.ret ?_;repeat (first|refine xBlock_ret ?_|refine xThen_ret ?_)
  obtain rfl:=oJ hE;refine retQ.retF H rfl ⟨rfl,rfl⟩ ?_
  first|exact Heap.sub_set htk1|(simp only [Heap.set_set]; exact Heap.sub_set htk1)
 refine sk hK7 ?_;clear hK7 K7;refine seqR (S As (nil ?_));refine AWp.nilTok 10 2 tk1 rfl hpG ?_;refine seqJH (TA 5 (TA 7 (TA 8 kN))) (fun(z:(Sl Z3))=>[(10,.a (.d (Sl.d 2 Z3.c (some tk1) z)))]) (fun z=>(H.set tk1 (some (.tok 2 z.l.length)))) (fun z=>Z105_j12 a2 x4 x6 z=some r) ?_ ?_
 ·intro K12 hK12;refine seqR (S Ld (S Fv (S Ld (S Fv (S Ld ?_)))));obtain⟨x65,gx65,hE⟩:=bO hE;refine Sc rfl rfl (Z104_walk gx65) ?_;refine S NB (nil ?_);refine cE hE (fun hc66 hE=>?_) (fun hc66 hE=>?_)
  ·refine region ?_;refine S Mv (S Mv (S BU (S BV ?_)));obtain⟨x67,gx67,hE⟩:=bO hE;refine SH (am Z3.c (TK rfl) rfl (TK rfl) (TK rfl) gx67) ?_;refine hq (H.set tk1 (some (.tok 2 x67.l.length))) ?_;refine S As (nil ?_);exact hK12 _ x67 wA hE
  refine AWp.skip ?_;exact hK12 _ (Sl.nil:Sl Z3) wA hE
 rintro s10_13 hE;try dsimp only at hE
 unfold Z105_j12 at hE;refine seqJH (TA 5 (TA 7 (TA 8 kN))) (fun(z:(Sl Z3))=>[(10,.a (.d (Sl.d 2 Z3.c (some tk1) z)))]) (fun z=>(H.set tk1 (some (.tok 2 z.l.length)))) (fun z=>Z105_j14 a2 x4 x6 z=some r) ?_ ?_
 ·intro K14 hK14;refine seqR (S As (nil ?_));refine block ?_;refine loopH (TA 5 (TA 7 (TA 8 kN))) (fun(z:Nat×(Sl Z3)×Nat)=>[(10,.a (.d (Sl.d 2 Z3.c (some tk1) z.2.1))),(11,.a (.d (.int .i64 ((z.2.2:Nat):Int))))]) (fun z=>(H.set tk1 (some (.tok 2 z.2.1.l.length)))) (fun z=>z.1) (fun z=>Z105_l43 a2 x4 x6 z.1 z.2.1 z.2.2=some r) ((a2.FArgs.l.length+1),s10_13,0) hE wA ?_;rintro ⟨n43,s10_44,s11_45⟩ hE K43 hK43
  try dsimp only at hE
  cases n43 with
  | zero=>cases hE
  | succ n43 =>
    rw [Z105_l43] at hE;refine seqK fun K46 hK46=>?_;refine seqR (S Mv (S Fv (S Ld ?_)));refine sLen (f:=Z5.c) (s:=a2.FArgs) (TK rfl) rfl rfl rfl rfl fun hL48=>?_;refine S BI (nil ?_);refine cE hE (fun hc49 hE=>?_) (fun hc49 hE=>?_)
    ·try dsimp only at hc49
     have hf49:=oD hc49;refine sk hK46 ?_;clear hK46 K46;refine seqJH (TA 5 (TA 7 (TA 8 (TA 11 kN)))) (fun(z:(Sl Z3))=>[(10,.a (.d (Sl.d 2 Z3.c (some tk1) z)))]) (fun z=>(H.set tk1 (some (.tok 2 z.l.length)))) (fun z=>Z105_j50 s11_45 ((Z105_l43 a2 x4 x6 n43)) z=some r) ?_ ?_
     ·intro K50 hK50;refine block ?_;refine AWp.seqD (Sd Fv (Sd Ld (Sd Fv (Sd Ld (Sd Mv ?_)))));obtain⟨x53,gx53,hE⟩:=bO hE;refine Sd (ix Z5.c s11_45 gx53) (Sd Fv (Sd Ld ?_));obtain⟨x54,gx54,hE⟩:=bO hE;refine Scd rfl rfl (Z85_walk gx54) ?_;refine Sd Mv (Sd EX (Sd EX ?_));refine DOps.sB (TK rfl) rfl rfl ?_ (by repeat (first|exact Snoc.nil|apply Snoc.cons));refine DOps.sLn (storeLFA (TK rfl) rfl rfl rfl rfl rfl) ?_
      refine Sd As ?_;refine DOps.nil (by decide +kernel) ?_;refine freezeA 12 _ rfl (KA 5 (KA 7 (KA 8 (KA 10 (KA 11 (KA 13 Keeps.nil)))))) ?_;refine AWp.seqD (Sd Mv (Sd NB (Sd Mv (G0d Fv ?_))));refine G1d 69 rfl Ld ?_;refine G0d Fv ?_;refine G1d 71 rfl Ld ?_;refine G0d Mv ?_;obtain⟨x56,gx56,hE⟩:=gO hE;refine DOps.gC rfl rfl (fun hC=>ungdA (k:=72) rfl (ungdA (k:=73) rfl (idxMn (f:=Z5.c) (n:=s11_45) (TK rfl) rfl (TK rfl) rfl rfl rfl (gx56 hC)))) rfl ?_
      refine G1d 74 rfl Fv ?_;refine G1d 75 rfl Ld ?_;obtain⟨x57,gx57,hE⟩:=gO hE;refine Gc2d 70 76 rfl rfl rfl rfl rfl rfl (fun hC=>Z56_walk (gx57 hC)) ?_;refine G1d 77 rfl NB ?_;refine Sd PO ?_;refine DOps.nil (by decide +kernel) ?_;refine cE hE (fun hc58 hE=>?_) (fun hc58 hE=>?_)
      ·refine region ?_;refine S Mv (S Mv ?_);obtain⟨x59,gx59,hE⟩:=bO hE;refine s0 (catM rfl rfl gx59) rfl ?_;refine S Fv (S Ld (S Mv ?_));obtain⟨x60,gx60,hE⟩:=bO hE;refine S (ix Z5.c s11_45 gx60) (S Fv (S Ld ?_));obtain⟨x61,gx61,hE⟩:=bO hE;refine s0 (catM rfl rfl gx61) rfl ?_;obtain⟨x62,gx62,hE⟩:=bO hE;refine s0 (catM rfl rfl gx62) rfl ?_;refine S BU (S BV ?_);obtain⟨x63,gx63,hE⟩:=bO hE;refine SH (am Z3.c (TK rfl) rfl (TK rfl) (TK rfl) gx63) ?_
       refine hq (H.set tk1 (some (.tok 2 x63.l.length))) ?_;refine S As (nil ?_);exact hK50 _ x63 wA hE
      refine AWp.skip ?_;exact hK50 _ s10_44 wA hE
     rintro s10_51 hE;try dsimp only at hE
     unfold Z105_j50 at hE;refine region ?_;refine S Mv ?_;refine SI ?_;refine S As (nil ?_);exact hK43 _ (n43,s10_51,(s11_45+1)) wA hE (nS _)
    refine AWp.exit ?_;exact hK14 _ s10_44 wA hE
 rintro s10_15 hE;try dsimp only at hE
 unfold Z105_j14 at hE;refine seqJH kN (fun(z:(Sl Z3))=>[(10,.a (.d (Sl.d 2 Z3.c (some tk1) z)))]) (fun z=>(H.set tk1 (some (.tok 2 z.l.length)))) (fun z=>Z105_j16 z=some r) ?_ ?_
 ·intro K16 hK16;refine seqR (S As (nil ?_));refine block ?_;refine loopH (TA 5 (TA 7 (TA 8 kN))) (fun(z:Nat×(Sl Z3)×Nat)=>[(10,.a (.d (Sl.d 2 Z3.c (some tk1) z.2.1))),(14,.a (.d (.int .i64 ((z.2.2:Nat):Int))))]) (fun z=>(H.set tk1 (some (.tok 2 z.2.1.l.length)))) (fun z=>z.1) (fun z=>Z105_l20 a2 x4 x6 z.1 z.2.1 z.2.2=some r) ((x6.1.FArgs.l.length+1),s10_15,0) hE wA ?_;rintro ⟨n20,s10_21,s14_22⟩ hE K20 hK20
  try dsimp only at hE
  cases n20 with
  | zero=>cases hE
  | succ n20 =>
    rw [Z105_l20] at hE;refine seqK fun K23 hK23=>?_;refine seqR (S Mv (S Fv (S Ld ?_)));refine sLen (f:=Z5.c) (s:=x6.1.FArgs) (TK rfl) rfl rfl rfl rfl fun hL25=>?_;refine S BI (nil ?_);refine cE hE (fun hc26 hE=>?_) (fun hc26 hE=>?_)
    ·try dsimp only at hc26
     have hf26:=oD hc26;refine sk hK23 ?_;clear hK23 K23;refine seqJH (TA 5 (TA 7 (TA 8 (TA 14 kN)))) (fun(z:(Sl Z3))=>[(10,.a (.d (Sl.d 2 Z3.c (some tk1) z)))]) (fun z=>(H.set tk1 (some (.tok 2 z.l.length)))) (fun z=>Z105_j27 s14_22 ((Z105_l20 a2 x4 x6 n20)) z=some r) ?_ ?_
     ·intro K27 hK27;refine block ?_;refine AWp.seqD (Sd Fv (Sd Ld (Sd Fv (Sd Ld (Sd Mv ?_)))));obtain⟨x30,gx30,hE⟩:=bO hE;refine Sd (ix Z5.c s14_22 gx30) (Sd Fv (Sd Ld ?_));obtain⟨x31,gx31,hE⟩:=bO hE;refine Scd rfl rfl (Z85_walk gx31) ?_;refine Sd Mv (Sd EX (Sd EX ?_));refine DOps.sB (TK rfl) rfl rfl ?_ (by repeat (first|exact Snoc.nil|apply Snoc.cons));refine DOps.sLn (storeLFA (TK rfl) rfl rfl rfl rfl rfl) ?_
      refine Sd As ?_;refine DOps.nil (by decide +kernel) ?_;refine freezeA 15 _ rfl (KA 5 (KA 7 (KA 8 (KA 10 (KA 14 (KA 16 Keeps.nil)))))) ?_;refine seqR (S Mv (S NB (S Mv (G0 Fv ?_))));refine G1 116 rfl Ld ?_;refine G0 Mv ?_;obtain⟨x33,gx33,hE⟩:=gO hE;refine gC rfl rfl (fun hC=>ungdA (k:=117) rfl (ungdA (k:=118) rfl (idxMn (f:=Z5.c) (n:=s14_22) (TK rfl) rfl (TK rfl) rfl rfl rfl (gx33 hC)))) rfl ?_
      refine G1 119 rfl Fv ?_;refine G1 120 rfl Ld ?_;obtain⟨x34,gx34,hE⟩:=gO hE;refine Gc1 121 rfl rfl rfl rfl rfl (fun hC=>Z53_walk (gx34 hC)) ?_;refine S PA (S Mv (G0 Fv ?_));refine G1 125 rfl Ld ?_;refine G0 Mv ?_;obtain⟨x35,gx35,hE⟩:=gO hE;refine gC rfl rfl (fun hC=>ungdA (k:=126) rfl (ungdA (k:=127) rfl (idxMn (f:=Z5.c) (n:=s14_22) (TK rfl) rfl (TK rfl) rfl rfl rfl (gx35 hC)))) rfl ?_;refine G1 128 rfl Fv ?_
      refine G1 129 rfl Ld ?_;refine G1 130 rfl NB ?_;refine S PA (nil ?_);refine cE hE (fun hc36 hE=>?_) (fun hc36 hE=>?_)
      ·refine region ?_;refine S Mv (S Mv ?_);obtain⟨x37,gx37,hE⟩:=bO hE;refine s0 (catM rfl rfl gx37) rfl ?_;refine S Fv (S Ld (S Mv ?_));obtain⟨x38,gx38,hE⟩:=bO hE;refine S (ix Z5.c s14_22 gx38) (S Fv (S Ld ?_));obtain⟨x39,gx39,hE⟩:=bO hE;refine s0 (catM rfl rfl gx39) rfl ?_;obtain⟨x40,gx40,hE⟩:=bO hE;refine s0 (catM rfl rfl gx40) rfl ?_;refine S BU (S BV ?_);obtain⟨x41,gx41,hE⟩:=bO hE;refine SH (am Z3.c (TK rfl) rfl (TK rfl) (TK rfl) gx41) ?_
       refine hq (H.set tk1 (some (.tok 2 x41.l.length))) ?_;refine S As (nil ?_);exact hK27 _ x41 wA hE
      refine AWp.skip ?_;exact hK27 _ s10_21 wA hE
     rintro s10_28 hE;try dsimp only at hE
     unfold Z105_j27 at hE;refine region ?_;refine S Mv ?_;refine SI ?_;refine S As (nil ?_);exact hK20 _ (n20,s10_28,(s14_22+1)) wA hE (nS _)
    refine AWp.exit ?_;exact hK16 _ s10_21 wA hE
 rintro s10_17 hE;try dsimp only at hE
 unfold Z105_j16 at hE;refine seqR (S Mv (S As (nil ?_)));refine AWp.dropTok 6 rfl ?_;refine AWp.ret ?_;repeat (first|refine xBlock_ret ?_|refine xThen_ret ?_)
 obtain rfl:=oJ hE;refine retQ.retF H rfl ⟨rfl,rfl⟩ ?_
 first|exact Heap.sub_set htk1|(simp only [Heap.set_set]; exact Heap.sub_set htk1)
def Z110_j3  (s5_4:(Sl Z3)):Option (Sl Z3):=some s5_4
def Z110_j14 (s6_9:Nat) (k_next_7:(Sl Z3)->Nat->Option (Sl Z3)) (s5_15:(Sl Z3)):Option (Sl Z3):=k_next_7 s5_15 (s6_9+1)
def Z110_l30 (a0:TDoc) (a1:TDef) (s6_9:Nat) (x28:(TDef×Bool)) (k_next_7:(Sl Z3)->Nat->Option (Sl Z3)):Nat->(Sl Z3)->Nat->Option (Sl Z3)
 | 0,_,_=>none
 | n30+1,s5_31,s10_32=>bif (decide (((s10_32:Nat):Int)<((x28.1.FFields.l.length:Nat):Int))) then((x28.1.FFields.l[s10_32]?).bind fun x38=>(Z105 a0 a1 x38).bind fun x39=>(appC 24 s5_31 x39).bind fun x40=>(Z110_l30 a0 a1 s6_9 x28 k_next_7 n30) x40 (s10_32+1)) else(Z110_j14 s6_9 k_next_7 s5_31)
def Z110_j19 (a0:TDoc) (a1:TDef) (s5_8:(Sl Z3)) (s6_9:Nat) (k_next_7:(Sl Z3)->Nat->Option (Sl Z3)) (s7_20:Int):Option (Sl Z3):=bif (!decide (s7_20=(0:Int))) then((appC 24 s5_8 (⟨false,[(Z3.mk s7_20 a1.FName)]⟩:Sl Z3)).bind fun x25=>Z110_j14 s6_9 k_next_7 x25) else((a1.FImplements.l[s6_9]?).bind fun x27=>(Z84 a0 x27).bind fun x28=>Z110_l30 a0 a1 s6_9 x28 k_next_7 (x28.1.FFields.l.length+1) s5_8 0)
def Z110_l7 (a0:TDoc) (a1:TDef) :Nat->(Sl Z3)->Nat->Option (Sl Z3)
 | 0,_,_=>none
 | n7+1,s5_8,s6_9=>bif (decide (((s6_9:Nat):Int)<((a1.FImplements.l.length:Nat):Int))) then((a1.FImplements.l[s6_9]?).bind fun x17=>(Z108 a0 x17 (2:Int)).bind fun x18=>guardO ((decide (x18=(0:Int)))) (partC a1.FImplements none (some ((s6_9:Nat):Int))) (Sl.nil:Sl Bs) fun x42=>guardO ((decide (x18=(0:Int)))) (a1.FImplements.l[s6_9]?) ([]:Bs) fun x43=>guardO ((decide (x18=(0:Int)))) (Z107 x42 x43) false fun x44=>bif ((decide (x18=(0:Int)))&&x44) then(Z110_j19 a0 a1 s5_8 s6_9 ((Z110_l7 a0 a1 n7)) (7:Int)) else(Z110_j19 a0 a1 s5_8 s6_9 ((Z110_l7 a0 a1 n7)) x18)) else(Z110_j3   s5_8)
def Z110 (a0:TDoc) (a1:TDef):Option (Sl Z3):=Z110_l7 a0 a1 (a1.FImplements.l.length+1) (Sl.nil:Sl Z3) 0
theorem Z110_walk {a0:TDoc}{a1:TDef}{r:Sl Z3}(hE:Z110 a0 a1=some r) (H:Heap) :AC Tryz.prog 36 [.agg (TDoc.c a0),.agg (TDef.c a1)] H fun v h'=>v=.a (.d (Sl.d 2 Z3.c none r))/\h'=H:=by
 unfold Z110 at hE;refine AC.oW 76 [.tmp 4] Tryz.call36 Tryz.func36 ?_;refine AWp.tok 2 fun tk1 htk1=>?_;refine seqR (S BX (S BX ?_));refine s0 (assignNil (k':=2) rfl) rfl ?_;refine nil ?_;refine seqR (S As (nil ?_));refine AWp.nilTok 5 2 tk1 rfl hpG ?_;refine seqJH kN (fun(z:(Sl Z3))=>[(5,.a (.d (Sl.d 2 Z3.c (some tk1) z)))]) (fun z=>(H.set tk1 (some (.tok 2 z.l.length)))) (fun z=>Z110_j3 z=some r) ?_ ?_
 ·intro K3 hK3;refine seqR (S As (nil ?_));refine block ?_;refine loopH (TA 2 (TA 3 kN)) (fun(z:Nat×(Sl Z3)×Nat)=>[(5,.a (.d (Sl.d 2 Z3.c (some tk1) z.2.1))),(6,.a (.d (.int .i64 ((z.2.2:Nat):Int))))]) (fun z=>(H.set tk1 (some (.tok 2 z.2.1.l.length)))) (fun z=>z.1) (fun z=>Z110_l7 a0 a1 z.1 z.2.1 z.2.2=some r) ((a1.FImplements.l.length+1),(Sl.nil:Sl Z3),0) hE wA ?_;rintro ⟨n7,s5_8,s6_9⟩ hE K7 hK7
  try dsimp only at hE
  cases n7 with
  | zero=>cases hE
  | succ n7 =>
    rw [Z110_l7] at hE;refine seqK fun K10 hK10=>?_;refine seqR (S Mv (S Fv (S Ld ?_)));refine sLen (f:=strE) (s:=a1.FImplements) (TK rfl) rfl rfl rfl rfl fun hL12=>?_;refine S BI (nil ?_);refine cE hE (fun hc13 hE=>?_) (fun hc13 hE=>?_)
    ·try dsimp only at hc13
     have hf13:=oD hc13;refine sk hK10 ?_;clear hK10 K10;refine seqJH (TA 2 (TA 3 (TA 6 kN))) (fun(z:(Sl Z3))=>[(5,.a (.d (Sl.d 2 Z3.c (some tk1) z)))]) (fun z=>(H.set tk1 (some (.tok 2 z.l.length)))) (fun z=>Z110_j14 s6_9 ((Z110_l7 a0 a1 n7)) z=some r) ?_ ?_
     ·intro K14 hK14;refine block ?_;refine AWp.seqD (Sd Ld (Sd Fv (Sd Ld (Sd Mv ?_))));obtain⟨x17,gx17,hE⟩:=bO hE;refine Sd (ix strE s6_9 gx17) (Sd Ld ?_);obtain⟨x18,gx18,hE⟩:=bO hE;refine Scd rfl rfl (Z108_walk gx18) ?_;refine Sd As ?_;refine DOps.nil (by decide +kernel) ?_;refine seqJH (TA 2 (TA 3 (TA 5 (TA 6 kN)))) (fun(z:Int)=>[(7,.a (.d (.int .i64 z)))]) (fun z=>(H.set tk1 (some (.tok 2 s5_8.l.length)))) (fun z=>Z110_j19 a0 a1 s5_8 s6_9 ((Z110_l7 a0 a1 n7)) z=some r) ?_ ?_
      ·intro K19 hK19;refine AWp.seqD (Sd Mv (Sd BI (Sd Mv (G0d Fv ?_))));refine G1d 28 rfl Ld ?_;refine G0d Mv ?_;obtain⟨x42,gx42,hE⟩:=gO hE;refine DOps.gC rfl rfl (fun hC=>ungdA (k:=29) rfl (ungdA (k:=30) rfl (partM (f:=strE) (l:=none) (r:=(some ((s6_9:Nat):Int))) (TK rfl) rfl (TK rfl) rfl rfl trivial rfl (gx42 hC)))) rfl ?_;refine G0d Fv ?_;refine G1d 32 rfl Ld ?_;refine G0d Mv ?_;obtain⟨x43,gx43,hE⟩:=gO hE
       refine DOps.gC rfl rfl (fun hC=>ungdA (k:=33) rfl (ungdA (k:=34) rfl (idxMn (f:=strE) (n:=s6_9) (TK rfl) rfl (TK rfl) rfl rfl rfl (gx43 hC)))) rfl ?_;refine G1d 35 rfl Ld ?_;obtain⟨x44,gx44,hE⟩:=gO hE;refine Gc2d 31 36 rfl rfl rfl rfl rfl rfl (fun hC=>Z107_walk (gx44 hC)) ?_;refine Sd PA ?_;refine DOps.nil (by decide +kernel) ?_;refine cE hE (fun hc45 hE=>?_) (fun hc45 hE=>?_)
       ·refine region ?_;refine S As (nil ?_);exact hK19 _ (7:Int) wA hE
       refine AWp.skip ?_;exact hK19 _ x18 wA hE
      rintro s7_20 hE;try dsimp only at hE
      unfold Z110_j19 at hE;refine seqK fun K21 hK21=>?_;refine seqR (S Mv (S BI (nil ?_)));refine cE hE (fun hc23 hE=>?_) (fun hc23 hE=>?_)
      ·refine seqR (S Mv (S Mv (S Fv (S Ld (S BU (S BV ?_))))));obtain⟨x25,gx25,hE⟩:=bO hE;refine SH (am Z3.c (TK rfl) rfl (TK rfl) (TK rfl) gx25) ?_;refine hq (H.set tk1 (some (.tok 2 x25.l.length))) ?_;refine S As (nil ?_);refine AWp.exit ?_;exact hK14 _ x25 wA hE
      refine sk hK21 ?_;clear hK21 K21;refine AWp.seqD (Sd Ld (Sd Fv (Sd Ld (Sd Mv ?_))));obtain⟨x27,gx27,hE⟩:=bO hE;refine Sd (ix strE s6_9 gx27) (Sd Ld ?_);obtain⟨x28,gx28,hE⟩:=bO hE;refine Scd rfl rfl (Z84_walk gx28) ?_;refine Sd Mv (Sd EX (Sd EX ?_));refine DOps.sB (TK rfl) rfl rfl ?_ (by repeat (first|exact Snoc.nil|apply Snoc.cons));refine DOps.sLn (storeLFA (TK rfl) rfl rfl rfl rfl rfl) ?_;refine Sd As ?_
      refine DOps.nil (by decide +kernel) ?_;refine freezeA 8 _ rfl (KA 2 (KA 3 (KA 5 (KA 6 Keeps.nil)))) ?_;refine seqR (S As (nil ?_));refine block ?_;refine loopH (TA 2 (TA 3 (TA 6 (TA 8 kN)))) (fun(z:Nat×(Sl Z3)×Nat)=>[(5,.a (.d (Sl.d 2 Z3.c (some tk1) z.2.1))),(10,.a (.d (.int .i64 ((z.2.2:Nat):Int))))]) (fun z=>(H.set tk1 (some (.tok 2 z.2.1.l.length)))) (fun z=>z.1) (fun z=>Z110_l30 a0 a1 s6_9 x28 ((Z110_l7 a0 a1 n7)) z.1 z.2.1 z.2.2=some r) ((x28.1.FFields.l.length+1),s5_8,0) hE wA ?_
      rintro ⟨n30,s5_31,s10_32⟩ hE K30 hK30;try dsimp only at hE
      cases n30 with
      | zero=>cases hE
      | succ n30 =>
        rw [Z110_l30] at hE;refine seqK fun K33 hK33=>?_;refine seqR (S Mv (S Fv (S Ld ?_)));refine sLen (f:=Z4.c) (s:=x28.1.FFields) (TK rfl) rfl rfl rfl rfl fun hL35=>?_;refine S BI (nil ?_);refine cE hE (fun hc36 hE=>?_) (fun hc36 hE=>?_)
        ·try dsimp only at hc36
         have hf36:=oD hc36;refine sk hK33 ?_;clear hK33 K33;refine seqK fun K37 hK37=>?_;refine block ?_;refine AWp.draw rfl ?_;refine Sd Mv (Sd Ld (Sd Ld (Sd Fv (Sd Ld (Sd Mv ?_)))));obtain⟨x38,gx38,hE⟩:=bO hE;refine Sd (ix Z4.c s10_32 gx38) (Sd Ld ?_);obtain⟨x39,gx39,hE⟩:=bO hE;refine Scd rfl rfl (Z105_walk gx39) ?_;obtain⟨x40,gx40,hE⟩:=bO hE;refine DOps.sH (appM (f:=Z3.c) (TK rfl) rfl (TK rfl) (TK rfl) ⟨_,rfl⟩ rfl rfl (by decide) rfl rfl rfl rfl hpG rfl gx40) rfl ?_
         refine DOps.Dh (H.set tk1 (some (.tok 2 x40.l.length))) ?_;refine Sd As ?_;refine DOps.nil (by decide +kernel) ?_;refine hK37 _ ?_;clear hK37 K37;refine region ?_;refine S Mv ?_;refine SI ?_;refine S As (nil ?_);exact hK30 _ (n30,x40,(s10_32+1)) wA hE (nS _)
        refine AWp.exit ?_;exact hK14 _ s5_31 wA hE
     rintro s5_15 hE;try dsimp only at hE
     unfold Z110_j14 at hE;refine region ?_;refine S Mv ?_;refine SI ?_;refine S As (nil ?_);exact hK7 _ (n7,s5_15,(s6_9+1)) wA hE (nS _)
    refine AWp.exit ?_;exact hK3 _ s5_8 wA hE
 rintro s5_4 hE;try dsimp only at hE
 unfold Z110_j3 at hE;refine seqR (S Mv (S As (nil ?_)));refine AWp.dropTok 4 rfl ?_;refine AWp.ret ?_;repeat (first|refine xBlock_ret ?_|refine xThen_ret ?_)
 obtain rfl:=oJ hE;refine retQ.retF H rfl ⟨rfl,rfl⟩ ?_
 first|exact Heap.sub_set htk1|(simp only [Heap.set_set]; exact Heap.sub_set htk1)
def Z111_j3  (s5_4:(Sl Z3)):Option (Sl Z3):=some s5_4
def Z111_j14 (s6_9:Nat) (k_next_7:(Sl Z3)->Nat->Option (Sl Z3)) (s5_15:(Sl Z3)):Option (Sl Z3):=k_next_7 s5_15 (s6_9+1)
def Z111_j20 (a1:TDef) (s5_8:(Sl Z3)) (s6_9:Nat) (x17:Z6) (k_next_7:(Sl Z3)->Nat->Option (Sl Z3)) (s8_21:Int):Option (Sl Z3):=bif (!decide (s8_21=(0:Int))) then((catC a1.FName ([46]:Bs)).bind fun x24=>(catC x24 x17.FName).bind fun x25=>(appC 24 s5_8 (⟨false,[(Z3.mk s8_21 x25)]⟩:Sl Z3)).bind fun x26=>Z111_j14 s6_9 k_next_7 x26) else(Z111_j14 s6_9 k_next_7 s5_8)
def Z111_l7 (a0:TDoc) (a1:TDef) :Nat->(Sl Z3)->Nat->Option (Sl Z3)
 | 0,_,_=>none
 | n7+1,s5_8,s6_9=>bif (decide (((s6_9:Nat):Int)<((a1.FMembers.l.length:Nat):Int))) then((a1.FMembers.l[s6_9]?).bind fun x17=>(Z108 a0 x17.FName (1:Int)).bind fun x19=>guardO ((decide (x19=(0:Int)))) (partC a1.FMembers none (some ((s6_9:Nat):Int))) (Sl.nil:Sl Z6) fun x28=>guardO ((decide (x19=(0:Int)))) (Z109 (TDef.mk (0:Int) ([]:Bs) (Sl.nil:Sl Bs) (Sl.nil:Sl TDir) (Sl.nil:Sl Z4) x28 (Sl.nil:Sl Z5)) x17.FName) false fun x29=>bif ((decide (x19=(0:Int)))&&x29) then(Z111_j20 a1 s5_8 s6_9 x17 ((Z111_l7 a0 a1 n7)) (7:Int)) else(Z111_j20 a1 s5_8 s6_9 x17 ((Z111_l7 a0 a1 n7)) x19)) else(Z111_j3   s5_8)
def Z111 (a0:TDoc) (a1:TDef):Option (Sl Z3):=Z111_l7 a0 a1 (a1.FMembers.l.length+1) (Sl.nil:Sl Z3) 0
theorem Z111_walk {a0:TDoc}{a1:TDef}{r:Sl Z3}(hE:Z111 a0 a1=some r) (H:Heap) :AC Tryz.prog 37 [.agg (TDoc.c a0),.agg (TDef.c a1)] H fun v h'=>v=.a (.d (Sl.d 2 Z3.c none r))/\h'=H:=by
 unfold Z111 at hE;refine AC.oW 49 [.tmp 4] Tryz.call37 Tryz.func37 ?_;refine AWp.tok 2 fun tk1 htk1=>?_;refine seqR (S BX (S BX ?_));refine s0 (assignNil (k':=2) rfl) rfl ?_;refine nil ?_;refine seqR (S As (nil ?_));refine AWp.nilTok 5 2 tk1 rfl hpG ?_;refine seqJH kN (fun(z:(Sl Z3))=>[(5,.a (.d (Sl.d 2 Z3.c (some tk1) z)))]) (fun z=>(H.set tk1 (some (.tok 2 z.l.length)))) (fun z=>Z111_j3 z=some r) ?_ ?_
 ·intro K3 hK3;refine seqR (S As (nil ?_));refine block ?_;refine loopH (TA 2 (TA 3 kN)) (fun(z:Nat×(Sl Z3)×Nat)=>[(5,.a (.d (Sl.d 2 Z3.c (some tk1) z.2.1))),(6,.a (.d (.int .i64 ((z.2.2:Nat):Int))))]) (fun z=>(H.set tk1 (some (.tok 2 z.2.1.l.length)))) (fun z=>z.1) (fun z=>Z111_l7 a0 a1 z.1 z.2.1 z.2.2=some r) ((a1.FMembers.l.length+1),(Sl.nil:Sl Z3),0) hE wA ?_;rintro ⟨n7,s5_8,s6_9⟩ hE K7 hK7
  try dsimp only at hE
  cases n7 with
  | zero=>cases hE
  | succ n7 =>
    rw [Z111_l7] at hE;refine seqK fun K10 hK10=>?_;refine seqR (S Mv (S Fv (S Ld ?_)));refine sLen (f:=Z6.c) (s:=a1.FMembers) (TK rfl) rfl rfl rfl rfl fun hL12=>?_;refine S BI (nil ?_);refine cE hE (fun hc13 hE=>?_) (fun hc13 hE=>?_)
    ·try dsimp only at hc13
     have hf13:=oD hc13;refine sk hK10 ?_;clear hK10 K10;refine seqJH (TA 2 (TA 3 (TA 6 kN))) (fun(z:(Sl Z3))=>[(5,.a (.d (Sl.d 2 Z3.c (some tk1) z)))]) (fun z=>(H.set tk1 (some (.tok 2 z.l.length)))) (fun z=>Z111_j14 s6_9 ((Z111_l7 a0 a1 n7)) z=some r) ?_ ?_
     ·intro K14 hK14;refine block ?_;refine seqR (S Fv (S Ld (S Mv ?_)));obtain⟨x17,gx17,hE⟩:=bO hE;refine S (ix Z6.c s6_9 gx17) (S Fv (S Ld (S As (nil ?_))));refine seqR (S Ld (S Mv ?_));obtain⟨x19,gx19,hE⟩:=bO hE;refine Sc rfl rfl (Z108_walk gx19) ?_;refine S As (nil ?_);refine seqJH (TA 2 (TA 3 (TA 5 (TA 6 (TA 7 kN))))) (fun(z:Int)=>[(8,.a (.d (.int .i64 z)))]) (fun z=>(H.set tk1 (some (.tok 2 s5_8.l.length)))) (fun z=>Z111_j20 a1 s5_8 s6_9 x17 ((Z111_l7 a0 a1 n7)) z=some r) ?_ ?_
      ·intro K20 hK20;refine seqR (S Mv (S BI (S Mv (G0 Fv ?_))));refine G1 28 rfl Ld ?_;refine G0 Mv ?_;obtain⟨x28,gx28,hE⟩:=gO hE;refine gC rfl rfl (fun hC=>ungdA (k:=29) rfl (ungdA (k:=30) rfl (partM (f:=Z6.c) (l:=none) (r:=(some ((s6_9:Nat):Int))) (TK rfl) rfl (TK rfl) rfl rfl trivial rfl (gx28 hC)))) rfl ?_;refine G1 31 rfl BU ?_;refine G0 Mv ?_;obtain⟨x29,gx29,hE⟩:=gO hE;refine Gc2 32 33 rfl rfl rfl rfl rfl rfl (fun hC=>Z109_walk (gx29 hC)) ?_
       refine S PA (nil ?_);refine cE hE (fun hc30 hE=>?_) (fun hc30 hE=>?_)
       ·refine region ?_;refine S As (nil ?_);exact hK20 _ (7:Int) wA hE
       refine AWp.skip ?_;exact hK20 _ x19 wA hE
      rintro s8_21 hE;try dsimp only at hE
      unfold Z111_j20 at hE;refine seqR (S Mv (S BI (nil ?_)));refine cE hE (fun hc23 hE=>?_) (fun hc23 hE=>?_)
      ·refine region ?_;refine S Mv (S Mv (S Fv (S Ld ?_)));obtain⟨x24,gx24,hE⟩:=bO hE;refine s0 (catM rfl rfl gx24) rfl ?_;refine S Mv ?_;obtain⟨x25,gx25,hE⟩:=bO hE;refine s0 (catM rfl rfl gx25) rfl ?_;refine S BU (S BV ?_);obtain⟨x26,gx26,hE⟩:=bO hE;refine SH (am Z3.c (TK rfl) rfl (TK rfl) (TK rfl) gx26) ?_;refine hq (H.set tk1 (some (.tok 2 x26.l.length))) ?_;refine S As (nil ?_);exact hK14 _ x26 wA hE
      refine AWp.skip ?_;exact hK14 _ s5_8 wA hE
     rintro s5_15 hE;try dsimp only at hE
     unfold Z111_j14 at hE;refine region ?_;refine S Mv ?_;refine SI ?_;refine S As (nil ?_);exact hK7 _ (n7,s5_15,(s6_9+1)) wA hE (nS _)
    refine AWp.exit ?_;exact hK3 _ s5_8 wA hE
 rintro s5_4 hE;try dsimp only at hE
 unfold Z111_j3 at hE;refine seqR (S Mv (S As (nil ?_)));refine AWp.dropTok 4 rfl ?_;refine AWp.ret ?_;repeat (first|refine xBlock_ret ?_|refine xThen_ret ?_)
 obtain rfl:=oJ hE;refine retQ.retF H rfl ⟨rfl,rfl⟩ ?_
 first|exact Heap.sub_set htk1|(simp only [Heap.set_set]; exact Heap.sub_set htk1)
end Go.Proofs

namespace Go.Proofs
open Go Go.Ab
open AOps Cert AWp Keeps KeepsT
variable {lou:Lou}
def Z101_j3  (s3_4:(Sl Z3)):Option (Sl Z3):=some s3_4
def Z101_j14 (s4_9:Nat) (k_next_7:(Sl Z3)->Nat->Option (Sl Z3)) (s3_15:(Sl Z3)):Option (Sl Z3):=k_next_7 s3_15 (s4_9+1)
def Z101_l7 (a0:TDoc) :Nat->(Sl Z3)->Nat->Option (Sl Z3)
 | 0,_,_=>none
 | n7+1,s3_8,s4_9=>bif (decide (((s4_9:Nat):Int)<((a0.FDefs.l.length:Nat):Int))) then((a0.FDefs.l[s4_9]?).bind fun x17=>bif (decide (x17.FKind=(1:Int))) then((a0.FDefs.l[s4_9]?).bind fun x20=>(Z110 a0 x20).bind fun x21=>(appC 24 s3_8 x21).bind fun x22=>Z101_j14 s4_9 ((Z101_l7 a0 n7)) x22) else(bif (decide (x17.FKind=(3:Int))) then((a0.FDefs.l[s4_9]?).bind fun x25=>(Z111 a0 x25).bind fun x26=>(appC 24 s3_8 x26).bind fun x27=>Z101_j14 s4_9 ((Z101_l7 a0 n7)) x27) else(Z101_j14 s4_9 ((Z101_l7 a0 n7)) s3_8))) else(Z101_j3   s3_8)
def Z101 (a0:TDoc):Option (Sl Z3):=Z101_l7 a0 (a0.FDefs.l.length+1) (Sl.nil:Sl Z3) 0
theorem Z101_walk {a0:TDoc}{r:Sl Z3}(hE:Z101 a0=some r) (H:Heap) :AC Tryz.prog 13 [.agg (TDoc.c a0)] H fun v h'=>v=.a (.d (Sl.d 2 Z3.c none r))/\h'=H:=by
 unfold Z101 at hE;refine AC.oW 41 [.tmp 2] Tryz.call13 Tryz.func13 ?_;refine AWp.tok 2 fun tk1 htk1=>?_;refine seqR (S BX ?_);refine s0 (assignNil (k':=2) rfl) rfl ?_;refine nil ?_;refine seqR (S As (nil ?_));refine AWp.nilTok 3 2 tk1 rfl hpG ?_;refine seqJH kN (fun(z:(Sl Z3))=>[(3,.a (.d (Sl.d 2 Z3.c (some tk1) z)))]) (fun z=>(H.set tk1 (some (.tok 2 z.l.length)))) (fun z=>Z101_j3 z=some r) ?_ ?_
 ·intro K3 hK3;refine seqR (S As (nil ?_));refine block ?_;refine loopH (TA 1 kN) (fun(z:Nat×(Sl Z3)×Nat)=>[(3,.a (.d (Sl.d 2 Z3.c (some tk1) z.2.1))),(4,.a (.d (.int .i64 ((z.2.2:Nat):Int))))]) (fun z=>(H.set tk1 (some (.tok 2 z.2.1.l.length)))) (fun z=>z.1) (fun z=>Z101_l7 a0 z.1 z.2.1 z.2.2=some r) ((a0.FDefs.l.length+1),(Sl.nil:Sl Z3),0) hE wA ?_;rintro ⟨n7,s3_8,s4_9⟩ hE K7 hK7;try dsimp only at hE
  cases n7 with
  | zero=>cases hE
  | succ n7 =>
    rw [Z101_l7] at hE;refine seqK fun K10 hK10=>?_;refine seqR (S Mv (S Fv (S Ld ?_)));refine sLen (f:=TDef.c) (s:=a0.FDefs) (TK rfl) rfl rfl rfl rfl fun hL12=>?_;refine S BI (nil ?_);refine cE hE (fun hc13 hE=>?_) (fun hc13 hE=>?_)
    ·try dsimp only at hc13
     have hf13:=oD hc13;refine sk hK10 ?_;clear hK10 K10;refine seqJH (TA 1 (TA 4 kN)) (fun(z:(Sl Z3))=>[(3,.a (.d (Sl.d 2 Z3.c (some tk1) z)))]) (fun z=>(H.set tk1 (some (.tok 2 z.l.length)))) (fun z=>Z101_j14 s4_9 ((Z101_l7 a0 n7)) z=some r) ?_ ?_
     ·intro K14 hK14;refine block ?_;refine seqR (S Fv (S Ld (S Mv ?_)));obtain⟨x17,gx17,hE⟩:=bO hE;refine S (ix TDef.c s4_9 gx17) (S Fv (S Ld (nil ?_)));refine block ?_;refine seqR (S BI (S As (nil ?_)));refine cE hE (fun hc19 hE=>?_) (fun hc19 hE=>?_)
      ·refine AWp.draw rfl ?_;refine Sd Mv (Sd Ld (Sd Fv (Sd Ld (Sd Mv ?_))));obtain⟨x20,gx20,hE⟩:=bO hE;refine Sd (ix TDef.c s4_9 gx20) (Sd Ld ?_);obtain⟨x21,gx21,hE⟩:=bO hE;refine Scd rfl rfl (Z110_walk gx21) ?_;obtain⟨x22,gx22,hE⟩:=bO hE;refine DOps.sH (appM (f:=Z3.c) (TK rfl) rfl (TK rfl) (TK rfl) ⟨_,rfl⟩ rfl rfl (by decide) rfl rfl rfl rfl hpG rfl gx22) rfl ?_;refine DOps.Dh (H.set tk1 (some (.tok 2 x22.l.length))) ?_
       refine Sd As ?_;refine DOps.nil (by decide +kernel) ?_;exact hK14 _ x22 wA hE
      refine seqR (S BI (S As (nil ?_)));refine cE hE (fun hc24 hE=>?_) (fun hc24 hE=>?_)
      ·refine AWp.draw rfl ?_;refine Sd Mv (Sd Ld (Sd Fv (Sd Ld (Sd Mv ?_))));obtain⟨x25,gx25,hE⟩:=bO hE;refine Sd (ix TDef.c s4_9 gx25) (Sd Ld ?_);obtain⟨x26,gx26,hE⟩:=bO hE;refine Scd rfl rfl (Z111_walk gx26) ?_;obtain⟨x27,gx27,hE⟩:=bO hE;refine DOps.sH (appM (f:=Z3.c) (TK rfl) rfl (TK rfl) (TK rfl) ⟨_,rfl⟩ rfl rfl (by decide) rfl rfl rfl rfl hpG rfl gx27) rfl ?_;refine DOps.Dh (H.set tk1 (some (.tok 2 x27.l.length))) ?_
       refine Sd As ?_;refine DOps.nil (by decide +kernel) ?_;exact hK14 _ x27 wA hE
      refine AWp.skip ?_;exact hK14 _ s3_8 wA hE
     rintro s3_15 hE;try dsimp only at hE
     unfold Z101_j14 at hE;refine region ?_;refine S Mv ?_;refine SI ?_;refine S As (nil ?_);exact hK7 _ (n7,s3_15,(s4_9+1)) wA hE (nS _)
    refine AWp.exit ?_;exact hK3 _ s3_8 wA hE
 rintro s3_4 hE;try dsimp only at hE
 unfold Z101_j3 at hE;refine seqR (S Mv (S As (nil ?_)));refine AWp.dropTok 2 rfl ?_;refine AWp.ret ?_;repeat (first|refine xBlock_ret ?_|refine xThen_ret ?_)
 obtain rfl:=oJ hE;refine retQ.retF H rfl ⟨rfl,rfl⟩ ?_
 first|exact Heap.sub_set htk1|(simp only [Heap.set_set]; exact Heap.sub_set htk1)
def Z32 (a0:TDoc):Option Bool:=(Z60 a0 (600:Int)).bind fun x3=>guardO (((decide (x3<=(600:Int)))&&!(decide (((a0.FDefs.l.length:Nat):Int)=(0:Int))))) (Z59 a0) false fun x4=>guardO (((decide (x3<=(600:Int)))&&((decide (((a0.FDefs.l.length:Nat):Int)=(0:Int)))||x4))) (Z82 a0 false) (Sl.nil:Sl Z3) fun x5=>guardO ((((decide (x3<=(600:Int)))&&((decide (((a0.FDefs.l.length:Nat):Int)=(0:Int)))||x4))&&(decide (((x5.l.length:Nat):Int)=(0:Int))))) (Z101 a0) (Sl.nil:Sl Z3) fun x6=>some ((((decide (x3<=(600:Int)))&&((decide (((a0.FDefs.l.length:Nat):Int)=(0:Int)))||x4))&&(decide (((x5.l.length:Nat):Int)=(0:Int))))&&(decide (((x6.l.length:Nat):Int)=(0:Int))))
theorem Z32_walk {a0:TDoc}{r:Bool}(hE:Z32 a0=some r) (H:Heap) :AC Tryz.prog 4 [.agg (TDoc.c a0)] H fun v h'=>v=.a (.d (.bool r))/\h'=H:=by
 unfold Z32 at hE;refine AC.oW 28 [.tmp 2] Tryz.call4 Tryz.func4 ?_;refine seqR (S BX (S As (nil ?_)));refine seqR (S Ld ?_);obtain⟨x3,gx3,hE⟩:=bO hE;refine Sc rfl rfl (Z60_walk gx3) ?_;refine S BI (S Mv (G0 Fv ?_));refine G1 7 rfl Ld ?_;refine gC rfl rfl (fun hC=>ungdA (k:=8) rfl (lenM' (f:=TDef.c) (s:=a0.FDefs) (TK rfl) rfl rfl rfl)) rfl ?_;refine G1 9 rfl BI ?_;refine G1 10 rfl Mv ?_;refine G0 Ld ?_
 obtain⟨x4,gx4,hE⟩:=gO hE;refine Gc1 12 rfl rfl rfl rfl rfl (fun hC=>Z59_walk (gx4 hC)) ?_;refine gC rfl rfl (fun hC=>ungdA (k:=11) rfl (pickOrA rfl rfl rfl)) rfl ?_;refine S PA (S Mv (G0 Ld ?_));obtain⟨x5,gx5,hE⟩:=gO hE;refine Gc1 17 rfl rfl rfl rfl rfl (fun hC=>Z82_walk (gx5 hC)) ?_;refine gC rfl rfl (fun hC=>ungdA (k:=18) rfl (lenM' (f:=Z3.c) (s:=x5) (TK rfl) rfl rfl rfl)) rfl ?_;refine G1 19 rfl BI ?_
 refine S PA (S Mv (G0 Ld ?_));obtain⟨x6,gx6,hE⟩:=gO hE;refine Gc1 23 rfl rfl rfl rfl rfl (fun hC=>Z101_walk (gx6 hC)) ?_;refine gC rfl rfl (fun hC=>ungdA (k:=24) rfl (lenM' (f:=Z3.c) (s:=x6) (TK rfl) rfl rfl rfl)) rfl ?_;refine G1 25 rfl BI ?_;refine S PA (S As (nil ?_));exact rt hE
def Z115_j2  (y3_l0:TDef):Option (TDef×Bool):=some ((TDef.mk (0:Int) ([]:Bs) (Sl.nil:Sl Bs) (Sl.nil:Sl TDir) (Sl.nil:Sl Z4) (Sl.nil:Sl Z6) (Sl.nil:Sl Z5)),false)
def Z115_l7 (a0:TDoc) (a1:Bs) :Nat->Nat->TDef->Option (TDef×Bool)
 | 0,_,_=>none
 | n7+1,s11_8,y9_l0=>bif (decide (((s11_8:Nat):Int)<((a0.FDefs.l.length:Nat):Int))) then((a0.FDefs.l[s11_8]?).bind fun x15=>bif ((x15.FName==a1)) then(some (x15,true)) else((Z115_l7 a0 a1 n7) (s11_8+1) y9_l0)) else(Z115_j2   y9_l0)
def Z115 (a0:TDoc) (a1:Bs):Option (TDef×Bool):=Z115_l7 a0 a1 (a0.FDefs.l.length+1) 0 TDef.zero
theorem Z115_walk {a0:TDoc}{a1:Bs}{r:TDef×Bool}(hE:Z115 a0 a1=some r) (H:Heap) :AC Tryz.prog 24 [.agg (TDoc.c a0),.d (.str a1)] H fun v h'=>v=.tup [.agg (TDef.c r.1),.d (.bool r.2)]/\h'=H:=by
 unfold Z115 at hE;refine AC.oW 22 [.cell 4 50,.tmp 5] Tryz.call24 Tryz.func24 ?_;refine seqR (S BX ?_);refine Sl ?_;refine S As (nil ?_);refine seqJ (TA 4 kN) (fun(z:TDef)=>[]) (fun z=>[TDef.c z]) (fun z=>H) (fun z=>Z115_j2 z=some r) ?_ ?_
 ·intro K2 hK2;refine seqR (S Fv (S Ld ?_));refine sLen (f:=TDef.c) (s:=a0.FDefs) (TK rfl) rfl rfl rfl rfl fun hL6=>?_;refine S Mv (nil ?_);refine block ?_;refine loopO (TA 1 (TA 4 (TA 9 (TA 10 kN)))) (fun(z:Nat×Nat×TDef)=>[(11,.a (.d (.int .i64 ((z.2.1:Nat):Int))))]) (fun z=>[TDef.c z.2.2]) (fun z=>H) (fun z=>z.1) (fun z=>Z115_l7 a0 a1 z.1 z.2.1 z.2.2=some r) ((a0.FDefs.l.length+1),0,TDef.zero) hE wA ?_
  rintro ⟨n7,s11_8,y9_l0⟩ hE K7 hK7;try dsimp only at hE
  cases n7 with
  | zero=>cases hE
  | succ n7 =>
    rw [Z115_l7] at hE;refine seqR (S BI (nil ?_));refine seqK fun K11 hK11=>?_;refine cE hE (fun hc12 hE=>?_) (fun hc12 hE=>?_)
    ·try dsimp only at hc12
     have hf12:=oD hc12;refine sk hK11 ?_;clear hK11 K11;refine seqK fun K13 hK13=>?_;refine block ?_;refine seqR ?_;obtain⟨x15,gx15,hE⟩:=bO hE;refine S (ix TDef.c s11_8 gx15) (S Ld ?_);refine Sl ?_;refine Sf ?_;refine nil ?_;refine freezeA 7 _ rfl (KA 1 (KA 4 (KA 9 (KA 10 (KA 11 Keeps.nil))))) ?_;refine seqR (S Fv (S Ld (S Mv (S BS (nil ?_)))));refine cE hE (fun hc17 hE=>?_) (fun hc17 hE=>?_)
     ·refine seqR (S Ld ?_);refine Sf ?_;refine S As (nil ?_);exact rt hE
     refine sk hK13 ?_;clear hK13 K13;refine region ?_;refine SI ?_;refine S Mv (nil ?_);exact hK7 _ (n7,(s11_8+1),y9_l0) wA hE (nS _)
    refine AWp.exit ?_;exact hK2 _ y9_l0 wA hE
 rintro y3_l0 hE;try dsimp only at hE
 unfold Z115_j2 at hE;refine seqR (S BU ?_);refine Sf ?_;refine S As (nil ?_);exact rt hE
def Z13 (a0:Z0) (a1:Int) (a2:Bs) (a3:Bs) (a4:Bs) (a5:Bs):Option Z0:=(appC 88 a0.Fout (⟨false,[(Z2.mk a1 a0.Fname a2 a3 a4 a5)]⟩:Sl Z2)).bind fun x1=>some (Z0.mk a0.Fname x1)
theorem Z13_walk {a0:Z0}{a1:Int}{a2 a3 a4 a5:Bs}{c0 c0_1:Nat}{r:Z0}(hE:Z13 a0 a1 a2 a3 a4 a5=some r) (H:Heap) (hc0:H c0=some (.cells (Z0.cg (some c0_1) a0))) (ht0_1:H c0_1=some (.tok 6 a0.Fout.l.length)):AC Tryz.prog 25 [.d (.ptr c0 0),.d (.int .i64 a1),.d (.str a2),.d (.str a3),.d (.str a4),.d (.str a5)] H fun v h'=>v=.tup []/\h'=((H.set c0_1 (some (.tok 6 r.Fout.l.length))).set c0 (some (.cells (Z0.cg (some c0_1) r)))):=by
 unfold Z13 at hE;refine AC.oW 31 [] Tryz.call25 Tryz.func25 ?_;have ne_c0_c0_1:c0≠c0_1:=fun e_=>by subst e_; simp_all
 refine AWp.heqA (h':=((H.set c0_1 (some (.tok 6 a0.Fout.l.length))).set c0 (some (.cells (Z0.cg (some c0_1) a0))))) (by funext n_; simp only [Heap.set]; (repeat' split)<;>simp_all) ?_;refine AWp.draw rfl ?_;refine Sd Mv (Sd Mv (Sd NP ?_));refine DOps.s0 (fieldP (TK rfl) rfl rfl (TK rfl) rfl rfl) rfl ?_;refine DOps.s0 (loadP (TK rfl) rfl rfl hpG rfl) rfl ?_;refine Sd Mv (Sd Mv (Sd NP ?_));refine DOps.s0 (fieldP (TK rfl) rfl rfl (TK rfl) rfl rfl) rfl ?_
 refine DOps.s0 (loadP (TK rfl) rfl rfl hpG rfl) rfl ?_;refine Sd Mv (Sd Mv (Sd Mv (Sd Mv (Sd BU (Sd BV ?_)))));obtain⟨x1,gx1,hE⟩:=bO hE;refine DOps.sH (appM (f:=Z2.c) (TK rfl) rfl (TK rfl) (TK rfl) ⟨_,rfl⟩ rfl rfl (by decide) rfl rfl rfl rfl hpG rfl gx1) rfl ?_;refine DOps.Dh ((H.set c0_1 (some (.tok 6 x1.l.length))).set c0 (some (.cells (Z0.cg (some c0_1) a0)))) ?_;refine Sd NP ?_;refine DOps.s0 (fieldP (TK rfl) rfl rfl (TK rfl) rfl rfl) rfl ?_
 refine DOps.sHn (storeP1 (TK rfl) rfl rfl hpG rfl (by repeat (first|exact SetAt.zero|apply SetAt.succ))) rfl rfl ?_;refine DOps.Dh ((H.set c0_1 (some (.tok 6 x1.l.length))).set c0 (some (.cells (Z0.cg (some c0_1) (Z0.mk a0.Fname x1))))) ?_;refine DOps.nil (by decide +kernel) ?_;repeat (first|refine xBlock_normal ?_|refine xThen_exit ?_|refine xBlock_exit ?_)
 obtain rfl:=oJ hE;refine retQ.normalF ((H.set c0_1 (some (.tok 6 x1.l.length))).set c0 (some (.cells (Z0.cg (some c0_1) (Z0.mk a0.Fname x1))))) (xs:=[]) rfl ⟨rfl,rfl⟩ ?_;exact(fun _ _ h=>h)
def Z20 (a0:Int):Option Bs:=bif (decide (a0=(1:Int))) then(some ([116,121,112,101]:Bs)) else(bif (decide (a0=(2:Int))) then(some ([105,110,116,101,114,102,97,99,101]:Bs)) else(bif (decide (a0=(3:Int))) then(some ([117,110,105,111,110]:Bs)) else(bif (decide (a0=(4:Int))) then(some ([101,110,117,109]:Bs)) else(some ([105,110,112,117,116]:Bs)))))
theorem Z20_walk {a0:Int}{r:Bs}(hE:Z20 a0=some r) (H:Heap) :AC Tryz.prog 26 [.d (.int .i64 a0)] H fun v h'=>v=.a (.d (.str r))/\h'=H:=by
 unfold Z20 at hE;refine AC.oW 12 [.tmp 2] Tryz.call26 Tryz.func26 ?_;refine seqR (S As (nil ?_));refine seqK fun K2 hK2=>?_;refine seqR (S Mv (nil ?_));refine block ?_;refine seqR (S BI (S As (nil ?_)));refine cE hE (fun hc5 hE=>?_) (fun hc5 hE=>?_)
 ·refine seqR (S As (nil ?_));exact rt hE
 refine seqR (S BI (S As (nil ?_)));refine cE hE (fun hc8 hE=>?_) (fun hc8 hE=>?_)
 ·refine seqR (S As (nil ?_));exact rt hE
 refine seqR (S BI (S As (nil ?_)));refine cE hE (fun hc11 hE=>?_) (fun hc11 hE=>?_)
 ·refine seqR (S As (nil ?_));exact rt hE
 refine seqR (S BI (S As (nil ?_)));refine cE hE (fun hc14 hE=>?_) (fun hc14 hE=>?_)
 ·refine seqR (S As (nil ?_));exact rt hE
 refine sk hK2 ?_;clear hK2 K2;refine seqR (S As (nil ?_));exact rt hE
def Z123_j8  :Option Bool:=some true
def Z123_l12 (a0:(Sl Int)) (a1:(Sl Int)) :Nat->Nat->Option Bool
 | 0,_=>none
 | n12+1,s13_13=>bif (decide (((s13_13:Nat):Int)<((a0.l.length:Nat):Int))) then((a0.l[s13_13]?).bind fun x20=>(a1.l[s13_13]?).bind fun x21=>bif (!decide (x20=x21)) then(some false) else((Z123_l12 a0 a1 n12) (s13_13+1))) else(Z123_j8   )
def Z123 (a0:(Sl Int)) (a1:(Sl Int)):Option Bool:=bif (!decide (((a0.l.length:Nat):Int)=((a1.l.length:Nat):Int))) then(some false) else(Z123_l12 a0 a1 (a0.l.length+1) 0)
theorem Z123_walk {a0 a1:Sl Int}{w0 w1:Option Nat}{r:Bool}(hE:Z123 a0 a1=some r) (H:Heap) :AC Tryz.prog 113 [.d (Sl.d 1 (intE .i64) w0 a0),.d (Sl.d 1 (intE .i64) w1 a1)] H fun v h'=>v=.a (.d (.bool r))/\h'=H:=by
 unfold Z123 at hE;refine AC.oW 26 [.tmp 4] Tryz.call113 Tryz.func113 ?_;refine seqR (S As (nil ?_));refine seqK fun K2 hK2=>?_;refine seqR (S Mv ?_);refine sLen (f:=(intE .i64)) (s:=a0) (TK rfl) rfl rfl rfl rfl fun hL4=>?_;refine S Mv ?_;refine sLen (f:=(intE .i64)) (s:=a1) (TK rfl) rfl rfl rfl rfl fun hL5=>?_;refine S BI (nil ?_);refine cE hE (fun hc6 hE=>?_) (fun hc6 hE=>?_)
 ·refine seqR (S As (nil ?_));exact rt hE
 refine sk hK2 ?_;clear hK2 K2;refine seqJH kN (fun(z:Unit)=>[]) (fun z=>H) (fun z=>Z123_j8 =some r) ?_ ?_
 ·intro K8 hK8;refine seqR (S Mv ?_);refine sLen (f:=(intE .i64)) (s:=a0) (TK rfl) rfl rfl rfl rfl fun hL11=>?_;refine S Mv (nil ?_);refine block ?_;refine loopH (TA 0 (TA 1 (TA 12 kN))) (fun(z:Nat×Nat)=>[(13,.a (.d (.int .i64 ((z.2:Nat):Int))))]) (fun z=>H) (fun z=>z.1) (fun z=>Z123_l12 a0 a1 z.1 z.2=some r) ((a0.l.length+1),0) hE wA ?_;rintro ⟨n12,s13_13⟩ hE K12 hK12;try dsimp only at hE
  cases n12 with
  | zero=>cases hE
  | succ n12 =>
    rw [Z123_l12] at hE;refine seqR (S BI (nil ?_));refine seqK fun K15 hK15=>?_;refine cE hE (fun hc16 hE=>?_) (fun hc16 hE=>?_)
    ·try dsimp only at hc16
     have hf16:=oD hc16;refine sk hK15 ?_;clear hK15 K15;refine seqK fun K17 hK17=>?_;refine block ?_;refine seqR (S Mv (S As (nil ?_)));refine AWp.seqD (Sd Mv (Sd Mv ?_));obtain⟨x20,gx20,hE⟩:=bO hE;refine Sd (ix (intE .i64) s13_13 gx20) ?_;refine Sd Ld (Sd Mv (Sd Mv ?_));obtain⟨x21,gx21,hE⟩:=bO hE;refine Sd (ix (intE .i64) s13_13 gx21) ?_;refine Sd Ld (Sd BI ?_);refine DOps.nil (by decide +kernel) ?_
     refine cE hE (fun hc22 hE=>?_) (fun hc22 hE=>?_)
     ·refine seqR (S As (nil ?_));exact rt hE
     refine sk hK17 ?_;clear hK17 K17;refine region ?_;refine SI ?_;refine S Mv (nil ?_);exact hK12 _ (n12,(s13_13+1)) wA hE (nS _)
    refine AWp.exit ?_;exact hK8 _ () wA hE
 rintro _ hE;try dsimp only at hE
 unfold Z123_j8 at hE;refine seqR (S As (nil ?_));exact rt hE
def Z156 (a0:TRef) (a1:TRef):Option Bool:=guardO (((a0.FName==a1.FName))) (Z123 a0.FWraps a1.FWraps) false fun x3=>some (((a0.FName==a1.FName))&&x3)
theorem Z156_walk {a0 a1:TRef}{r:Bool}(hE:Z156 a0 a1=some r) (H:Heap) :AC Tryz.prog 79 [.agg (TRef.c a0),.agg (TRef.c a1)] H fun v h'=>v=.a (.d (.bool r))/\h'=H:=by
 unfold Z156 at hE;refine AC.oW 17 [.tmp 4] Tryz.call79 Tryz.func79 ?_;refine seqR (S BX (S BX (S As (nil ?_))));refine seqR (S Fv (S Ld (S Fv (S Ld (S BS (S Mv (G0 Fv ?_)))))));refine G1 11 rfl Ld ?_;refine G0 Fv ?_;refine G1 13 rfl Ld ?_;obtain⟨x3,gx3,hE⟩:=gO hE;refine Gc2 12 14 rfl rfl rfl rfl rfl rfl (fun hC=>Z123_walk (gx3 hC)) ?_;refine S PA (S As (nil ?_));exact rt hE
def Tryz.lay148_ren:Go.Shelf.Ren:=⟨fun|240=>148|276=>174|n=>n,fun|0=>0|4=>4|9=>9|20=>20|70=>149|72=>152|164=>195|37=>150|n=>n,fun|n=>n⟩
theorem Tryz.lay148:Go.Proofs.Lays.n240 Tryz.prog Tryz.lay148_ren:={
 mixed:=by kernel_rfl
 f240:=Tryz.func148.trans (congrArg some (by kernel_rfl))
 f276:=Tryz.func174.trans (congrArg some (by kernel_rfl))
 t0:=Tryz.underlying0
 a0:=Tryz.isAgg0
 z0:=Tryz.sizeOf0
 v0:=Tryz.zeroValue0
 t4:=Tryz.underlying4
 a4:=Tryz.isAgg4
 z4:=Tryz.sizeOf4
 v4:=Tryz.zeroValue4
 t9:=Tryz.underlying9
 a9:=Tryz.isAgg9
 z9:=Tryz.sizeOf9
 v9:=Tryz.zeroValue9
 t20:=Tryz.underlying20
 a20:=Tryz.isAgg20
 z20:=Tryz.sizeOf20
 v20:=Tryz.zeroValue20
 t70:=Tryz.underlying149
 a70:=Tryz.isAgg149
 z70:=Tryz.sizeOf149
 v70:=Tryz.zeroValue149
 t72:=Tryz.underlying152
 a72:=Tryz.isAgg152
 z72:=Tryz.sizeOf152
 v72:=Tryz.zeroValue152
 t164:=Tryz.underlying195
 a164:=Tryz.isAgg195
 z164:=Tryz.sizeOf195
 v164:=Tryz.zeroValue195 }
def Z130 (a0:Strings_Builder):Option Strings_Builder:=some ⟨true,a0.Fbuf⟩
def Z130_q (a0:Strings_Builder):Option Strings_Builder:=some ⟨true,a0.Fbuf⟩
theorem Z130_eq (a0:Strings_Builder):Z130 a0=Z130_q a0:=rfl
theorem Z130_walk {a0:Strings_Builder}{c0 c0_1:Nat}{r:Strings_Builder}(hE:Z130 a0=some r) (H:Heap) (hc0:H c0=some (.tcells 152 (Strings_Builder.cg c0 (some c0_1) a0))) (ht0_1:H c0_1=some (.tok 1 a0.Fbuf.l.length (some 5))):AC Tryz.prog 148 [.d (.ptr c0 0)] H fun v h'=>v=.tup []/\h'=((H.set c0_1 (some (.tok 1 r.Fbuf.l.length (some 5)))).set c0 (some (.tcells 152 (Strings_Builder.cg c0 (some c0_1) r)))):=by
 obtain rfl:=oJ hE;refine(bld_check (T:=152) Tryz.lay148 ⟨by kernel_rfl,by kernel_rfl⟩ rfl rfl hc0).mono fun v h' e=>⟨e.1, ?_⟩;rw [e.2];show _=Heap.set (Heap.set H c0_1 _) _ _;rw [Heap.set_self H c0_1 _ ht0_1]
def Z128 (a0:Strings_Builder) (a1:Int):Option (Unit×Strings_Builder):=(Z130 a0).bind fun x3=>(appC 1 x3.Fbuf (⟨false,[a1]⟩:Sl Int)).bind fun x5=>some ((),(Strings_Builder.mk x3.Faddr x5))
theorem Z128_walk {a0:Strings_Builder}{a1:Int}{c0 c0_1:Nat}{r:Unit×Strings_Builder}(hE:Z128 a0 a1=some r) (H:Heap) (hc0:H c0=some (.tcells 152 (Strings_Builder.cg c0 (some c0_1) a0))) (ht0_1:H c0_1=some (.tok 1 a0.Fbuf.l.length (some 5))):AC Tryz.prog 115 [.d (.ptr c0 0),.d (.int .u8 a1)] H fun v h'=>v=.a (.d (.nilIface))/\h'=((H.set c0_1 (some (.tok 1 r.2.Fbuf.l.length (some 5)))).set c0 (some (.tcells 152 (Strings_Builder.cg c0 (some c0_1) r.2)))):=by
 unfold Z128 at hE;refine AC.oW 17 [.tmp 4] Tryz.call115 Tryz.func115 ?_;have ne_c0_c0_1:c0≠c0_1:=fun e_=>by subst e_; simp_all
 refine AWp.heqA (h':=((H.set c0_1 (some (.tok 1 a0.Fbuf.l.length (some 5)))).set c0 (some (.tcells 152 (Strings_Builder.cg c0 (some c0_1) a0))))) (by funext n_; simp only [Heap.set]; (repeat' split)<;>simp_all) ?_;refine seqR (S As (nil ?_));refine seqR (S Mv ?_);obtain⟨x3,gx3,hE⟩:=bO hE;refine sH (callH rfl rfl (Z130_walk gx3 _ hpG hpG)) rfl ?_;refine hq ((H.set c0_1 (some (.tok 1 x3.Fbuf.l.length (some 5)))).set c0 (some (.tcells 152 (Strings_Builder.cg c0 (some c0_1) x3)))) ?_
 refine nil ?_;refine seqR (S Mv (S Mv (S NP ?_)));refine s0 (fieldP (TK rfl) rfl rfl (TK rfl) rfl rfl) rfl ?_;refine s0 (loadPT (TK rfl) rfl rfl hpG rfl) rfl ?_;refine S Mv (S BV ?_);obtain⟨x5,gx5,hE⟩:=bO hE;refine sH (appMT (TK rfl) rfl (TK rfl) (TK rfl) ⟨_,rfl⟩ rfl rfl (by decide) rfl rfl rfl rfl hpG rfl rfl gx5) rfl ?_;refine hq ((H.set c0_1 (some (.tok 1 x5.l.length (some 5)))).set c0 (some (.tcells 152 (Strings_Builder.cg c0 (some c0_1) x3)))) ?_
 refine S NP ?_;refine s0 (fieldP (TK rfl) rfl rfl (TK rfl) rfl rfl) rfl ?_;refine sHn (storePT (TK rfl) rfl rfl hpG rfl (by repeat (first|exact SetAt.zero|apply SetAt.succ))) rfl rfl ?_;refine hq ((H.set c0_1 (some (.tok 1 x5.l.length (some 5)))).set c0 (some (.tcells 152 (Strings_Builder.cg c0 (some c0_1) (Strings_Builder.mk x3.Faddr x5))))) ?_;refine nil ?_;refine seqR (S As (nil ?_));exact rt hE
def Tryz.lay116_ren:Go.Shelf.Ren:=⟨fun|169=>116|n=>n,fun|70=>149|9=>9|0=>0|72=>152|37=>150|127=>176|3=>3|5=>5|n=>n,fun|n=>n⟩
theorem Tryz.lay116:Go.Proofs.Lays.n169 Tryz.prog Tryz.lay116_ren:={
 mixed:=by kernel_rfl
 f169:=Tryz.func116.trans (congrArg some (by kernel_rfl))
 t0:=Tryz.underlying0
 a0:=Tryz.isAgg0
 z0:=Tryz.sizeOf0
 v0:=Tryz.zeroValue0
 t3:=Tryz.underlying3
 a3:=Tryz.isAgg3
 z3:=Tryz.sizeOf3
 v3:=Tryz.zeroValue3
 t9:=Tryz.underlying9
 a9:=Tryz.isAgg9
 z9:=Tryz.sizeOf9
 v9:=Tryz.zeroValue9
 t37:=Tryz.underlying150
 a37:=Tryz.isAgg150
 z37:=Tryz.sizeOf150
 v37:=Tryz.zeroValue150
 t70:=Tryz.underlying149
 a70:=Tryz.isAgg149
 z70:=Tryz.sizeOf149
 v70:=Tryz.zeroValue149
 t72:=Tryz.underlying152
 a72:=Tryz.isAgg152
 z72:=Tryz.sizeOf152
 v72:=Tryz.zeroValue152
 t127:=Tryz.underlying176
 a127:=Tryz.isAgg176
 z127:=Tryz.sizeOf176
 v127:=Tryz.zeroValue176 }
theorem Tryz.extra116:Builder.Extra Tryz.prog Tryz.lay116_ren where
 sizeBuilder:=by kernel_rfl
 liesBuilder:=by kernel_rfl
 t5:=Tryz.underlying5
 a5:=Tryz.isAgg5
 z5:=Tryz.sizeOf5
 v5:=Tryz.zeroValue5
 infoByte:=by kernel_rfl
 cellsByte:=by kernel_rfl
 sizeByte:=by kernel_rfl
 neB5:=by decide
def Z127 (a0:Strings_Builder):Option Bs:=bldStr a0
def Z127_q (a0:Strings_Builder):Option Bs:=bldStr a0
theorem Z127_eq (a0:Strings_Builder):Z127 a0=Z127_q a0:=rfl
theorem Z127_walk {a0:Strings_Builder}{c0 t0:Nat}{r:Bs}(hE:Z127 a0=some r) (H:Heap) (hc0:H c0=some (.tcells 152 (Strings_Builder.cg c0 (some t0) a0))) (ht0:H t0=some (.tok 1 a0.Fbuf.l.length (some 5))):AC Tryz.prog 116 [.d (.ptr c0 0)] H fun v h'=>v=.a (.d (.str r))/\h'=(H.set t0 none).set c0 none:=bld_string Tryz.lay116 Tryz.extra116 rfl rfl rfl hE hc0 ht0
end Go.Proofs

namespace Go.Proofs
open Go Go.Ab
open AOps Cert AWp Keeps KeepsT
variable {lou:Lou}
def Z155_j7 (a0:TRef)  (y8_id3_3:Strings_Builder) (y9_id4_5:Strings_Builder):Option Bs:=(Z127 y8_id3_3).bind fun x11=>(catC x11 a0.FName).bind fun x12=>(Z127 y9_id4_5).bind fun x13=>(catC x12 x13).bind fun x14=>some x14
def Z155_j25 (s5_19:Int) (k_next_18:Int->Strings_Builder->Strings_Builder->Option Bs) (y26_id3_3:Strings_Builder) (y27_id4_5:Strings_Builder):Option Bs:=(subC s5_19 (1:Int)).bind fun x28=>k_next_18 x28 y26_id3_3 y27_id4_5
def Z155_l18 (a0:TRef) :Nat->Int->Strings_Builder->Strings_Builder->Option Bs
 | 0,_,_,_=>none
 | n18+1,s5_19,y20_id3_3,y21_id4_5=>bif (decide ((0:Int)<=s5_19)) then((idxC a0.FWraps.l s5_19).bind fun x30=>bif (decide (x30=(1:Int))) then((Z128 y21_id4_5 (33:Int)).bind fun x32=>Z155_j25 s5_19 ((Z155_l18 a0 n18)) y20_id3_3 x32.2) else((Z128 y20_id3_3 (91:Int)).bind fun x34=>(Z128 y21_id4_5 (93:Int)).bind fun x35=>Z155_j25 s5_19 ((Z155_l18 a0 n18)) x34.2 x35.2)) else(Z155_j7 a0  y20_id3_3 y21_id4_5)
def Z155 (a0:TRef):Option Bs:=(subC ((a0.FWraps.l.length:Nat):Int) (1:Int)).bind fun x17=>Z155_l18 a0 F0 x17 Strings_Builder.zero Strings_Builder.zero
theorem Z155_walk {a0:TRef}{r:Bs}(hE:Z155 a0=some r) (H:Heap) :AC Tryz.prog 84 [.agg (TRef.c a0)] H fun v h'=>v=.a (.d (.str r))/\h'=H:=by
 unfold Z155 at hE;refine AC.oW 29 [.tmp 2] Tryz.call84 Tryz.func84 ?_;refine seqR (S BX (S As (nil ?_)));refine seqR ?_;refine AOps.tokE 1 5 fun tk3_4 htk3_4=>?_;refine sE (StepE.allocT (TK rfl) rfl) rfl (fun _ _ _ ⟨id3_3,hid3_3,e1,e2,e3⟩=>?_); subst e1 e2 e3;obtain⟨ne_id3_3_tk3_4,hid3_3⟩:=Heap.set_fresh hid3_3;refine AOps.recellT id3_3 _ hpG (fun j w cs hh hx=>tok_cell 1 1 1 hh (t:=tk3_4) hpG hx rfl) ?_
 refine hq ((H.set tk3_4 (some (.tok 1 0 (some 5)))).set id3_3 (some (.tcells 152 (Strings_Builder.cg id3_3 (some tk3_4) Strings_Builder.zero)))) ?_;refine AOps.tokE 1 5 fun tk4_6 htk4_6=>?_;obtain⟨ne_tk4_6_id3_3,htk4_6⟩:=Heap.set_fresh htk4_6;obtain⟨ne_tk4_6_tk3_4,htk4_6⟩:=Heap.set_fresh htk4_6;refine sE (StepE.allocT (TK rfl) rfl) rfl (fun _ _ _ ⟨id4_5,hid4_5,e1,e2,e3⟩=>?_); subst e1 e2 e3;obtain⟨ne_id4_5_tk4_6,hid4_5⟩:=Heap.set_fresh hid4_5
 obtain⟨ne_id4_5_id3_3,hid4_5⟩:=Heap.set_fresh hid4_5;obtain⟨ne_id4_5_tk3_4,hid4_5⟩:=Heap.set_fresh hid4_5;refine AOps.recellT id4_5 _ hpG (fun j w cs hh hx=>tok_cell 1 1 1 hh (t:=tk4_6) hpG hx rfl) ?_;refine hq ((((H.set tk3_4 (some (.tok 1 0 (some 5)))).set id3_3 (some (.tcells 152 (Strings_Builder.cg id3_3 (some tk3_4) Strings_Builder.zero)))).set tk4_6 (some (.tok 1 0 (some 5)))).set id4_5 (some (.tcells 152 (Strings_Builder.cg id4_5 (some tk4_6) Strings_Builder.zero)))) ?_
 refine nil ?_;refine seqJH (TA 1 (TA 3 (TA 4 kN))) (fun(z:Strings_Builder×Strings_Builder)=>[]) (fun z=>((((H.set tk3_4 (some (.tok 1 z.1.Fbuf.l.length (some 5)))).set id3_3 (some (.tcells 152 (Strings_Builder.cg id3_3 (some tk3_4) z.1)))).set tk4_6 (some (.tok 1 z.2.Fbuf.l.length (some 5)))).set id4_5 (some (.tcells 152 (Strings_Builder.cg id4_5 (some tk4_6) z.2))))) (fun z=>Z155_j7 a0 z.1 z.2=some r) ?_ ?_
 ·intro K7 hK7;refine seqR (S Fv (S Ld ?_));refine sLen (f:=(intE .i64)) (s:=a0.FWraps) (TK rfl) rfl rfl rfl rfl fun hL16=>?_;obtain⟨x17,gx17,hE⟩:=bO hE;refine s0 (subM rfl rfl gx17) rfl ?_;refine S As (nil ?_);refine block ?_;refine loopH (TA 1 (TA 3 (TA 4 kN))) (fun(z:Nat×Int×Strings_Builder×Strings_Builder)=>[(5,.a (.d (.int .i64 z.2.1)))]) (fun z=>((((H.set tk3_4 (some (.tok 1 z.2.2.1.Fbuf.l.length (some 5)))).set id3_3 (some (.tcells 152 (Strings_Builder.cg id3_3 (some tk3_4) z.2.2.1)))).set tk4_6 (some (.tok 1 z.2.2.2.Fbuf.l.length (some 5)))).set id4_5 (some (.tcells 152 (Strings_Builder.cg id4_5 (some tk4_6) z.2.2.2))))) (fun z=>z.1) (fun z=>Z155_l18 a0 z.1 z.2.1 z.2.2.1 z.2.2.2=some r) (F0,x17,Strings_Builder.zero,Strings_Builder.zero) hE wA ?_
  rintro ⟨n18,s5_19,y20_id3_3,y21_id4_5⟩ hE K18 hK18;try dsimp only at hE
  cases n18 with
  | zero=>cases hE
  | succ n18 =>
    rw [Z155_l18] at hE;refine seqK fun K22 hK22=>?_;refine seqR (S Mv (S BI (nil ?_)));refine cE hE (fun hc24 hE=>?_) (fun hc24 hE=>?_)
    ·refine sk hK22 ?_;clear hK22 K22;refine seqJH (TA 1 (TA 3 (TA 4 (TA 5 kN)))) (fun(z:Strings_Builder×Strings_Builder)=>[]) (fun z=>((((H.set tk3_4 (some (.tok 1 z.1.Fbuf.l.length (some 5)))).set id3_3 (some (.tcells 152 (Strings_Builder.cg id3_3 (some tk3_4) z.1)))).set tk4_6 (some (.tok 1 z.2.Fbuf.l.length (some 5)))).set id4_5 (some (.tcells 152 (Strings_Builder.cg id4_5 (some tk4_6) z.2))))) (fun z=>Z155_j25 s5_19 ((Z155_l18 a0 n18)) z.1 z.2=some r) ?_ ?_
     ·intro K25 hK25;refine block ?_;refine seqR (S Fv (S Ld (S Mv ?_)));obtain⟨x30,gx30,hE⟩:=bO hE;refine s0 (idxM (f:=(intE .i64)) (TK rfl) rfl (TK rfl) rfl rfl rfl gx30) rfl ?_;refine S Ld (S BI (nil ?_));refine cE hE (fun hc31 hE=>?_) (fun hc31 hE=>?_)
      ·refine region ?_;obtain⟨x32,gx32,hE⟩:=bO hE;refine sH (callH rfl rfl (Z128_walk gx32 _ hpG hpG)) rfl ?_;refine hq ((((H.set tk3_4 (some (.tok 1 y20_id3_3.Fbuf.l.length (some 5)))).set id3_3 (some (.tcells 152 (Strings_Builder.cg id3_3 (some tk3_4) y20_id3_3)))).set tk4_6 (some (.tok 1 x32.2.Fbuf.l.length (some 5)))).set id4_5 (some (.tcells 152 (Strings_Builder.cg id4_5 (some tk4_6) x32.2)))) ?_
       refine nil ?_;exact hK25 _ (y20_id3_3,x32.2) wA hE
      refine seqR ?_;obtain⟨x34,gx34,hE⟩:=bO hE;refine sH (callH rfl rfl (Z128_walk gx34 _ hpG hpG)) rfl ?_;refine hq ((((H.set tk3_4 (some (.tok 1 x34.2.Fbuf.l.length (some 5)))).set id3_3 (some (.tcells 152 (Strings_Builder.cg id3_3 (some tk3_4) x34.2)))).set tk4_6 (some (.tok 1 y21_id4_5.Fbuf.l.length (some 5)))).set id4_5 (some (.tcells 152 (Strings_Builder.cg id4_5 (some tk4_6) y21_id4_5)))) ?_
      refine nil ?_;refine region ?_;obtain⟨x35,gx35,hE⟩:=bO hE;refine sH (callH rfl rfl (Z128_walk gx35 _ hpG hpG)) rfl ?_;refine hq ((((H.set tk3_4 (some (.tok 1 x34.2.Fbuf.l.length (some 5)))).set id3_3 (some (.tcells 152 (Strings_Builder.cg id3_3 (some tk3_4) x34.2)))).set tk4_6 (some (.tok 1 x35.2.Fbuf.l.length (some 5)))).set id4_5 (some (.tcells 152 (Strings_Builder.cg id4_5 (some tk4_6) x35.2)))) ?_
      refine nil ?_;exact hK25 _ (x34.2,x35.2) wA hE
     rintro ⟨y26_id3_3,y27_id4_5⟩ hE;try dsimp only at hE
     unfold Z155_j25 at hE;refine region ?_;refine S Mv ?_;obtain⟨x28,gx28,hE⟩:=bO hE;refine s0 (subM rfl rfl gx28) rfl ?_;refine S As (nil ?_);exact hK18 _ (n18,x28,y26_id3_3,y27_id4_5) wA hE (nS _)
    refine AWp.exit ?_;exact hK7 _ (y20_id3_3,y21_id4_5) wA hE
 rintro ⟨y8_id3_3,y9_id4_5⟩ hE;try dsimp only at hE
 unfold Z155_j7 at hE;refine AWp.seqD ?_;obtain⟨x11,gx11,hE⟩:=bO hE;refine DOps.sH (callH rfl rfl (Z127_walk gx11 _ hpG hpG)) rfl ?_;refine DOps.Dh ((H.set tk4_6 (some (.tok 1 y9_id4_5.Fbuf.l.length (some 5)))).set id4_5 (some (.tcells 152 (Strings_Builder.cg id4_5 (some tk4_6) y9_id4_5)))) ?_;refine Sd Fv (Sd Ld ?_);obtain⟨x12,gx12,hE⟩:=bO hE;refine DOps.s0 (catM rfl rfl gx12) rfl ?_;obtain⟨x13,gx13,hE⟩:=bO hE
 refine DOps.sH (callH rfl rfl (Z127_walk gx13 _ hpG hpG)) rfl ?_;refine DOps.Dh H ?_;obtain⟨x14,gx14,hE⟩:=bO hE;refine DOps.s0 (catM rfl rfl gx14) rfl ?_;refine Sd As ?_;refine DOps.nil (by decide +kernel) ?_;exact rt hE
def Z116_j2  (y3_l0:Z5):Option (Z5×Bool):=some ((Z5.mk ([]:Bs) TRef.zero false Z7.zero (Sl.nil:Sl TDir)),false)
def Z116_l7 (a0:(Sl Z5)) (a1:Bs) :Nat->Nat->Z5->Option (Z5×Bool)
 | 0,_,_=>none
 | n7+1,s10_8,y9_l0=>bif (decide (((s10_8:Nat):Int)<((a0.l.length:Nat):Int))) then((a0.l[s10_8]?).bind fun x15=>bif ((x15.FName==a1)) then(some (x15,true)) else((Z116_l7 a0 a1 n7) (s10_8+1) y9_l0)) else(Z116_j2   y9_l0)
def Z116 (a0:(Sl Z5)) (a1:Bs):Option (Z5×Bool):=Z116_l7 a0 a1 (a0.l.length+1) 0 Z5.zero
theorem Z116_walk {a0:Sl Z5}{a1:Bs}{w0:Option Nat}{r:Z5×Bool}(hE:Z116 a0 a1=some r) (H:Heap) :AC Tryz.prog 90 [.d (Sl.d 10 Z5.c w0 a0),.d (.str a1)] H fun v h'=>v=.tup [.agg (Z5.c r.1),.d (.bool r.2)]/\h'=H:=by
 unfold Z116 at hE;refine AC.oW 21 [.cell 4 82,.tmp 5] Tryz.call90 Tryz.func90 ?_;refine seqR ?_;refine Sl ?_;refine S As (nil ?_);refine seqJ (TA 4 kN) (fun(z:Z5)=>[]) (fun z=>[Z5.c z]) (fun z=>H) (fun z=>Z116_j2 z=some r) ?_ ?_
 ·intro K2 hK2;refine seqR (S Mv ?_);refine sLen (f:=Z5.c) (s:=a0) (TK rfl) rfl rfl rfl rfl fun hL6=>?_;refine S Mv (nil ?_);refine block ?_;refine loopO (TA 1 (TA 4 (TA 8 (TA 9 kN)))) (fun(z:Nat×Nat×Z5)=>[(10,.a (.d (.int .i64 ((z.2.1:Nat):Int))))]) (fun z=>[Z5.c z.2.2]) (fun z=>H) (fun z=>z.1) (fun z=>Z116_l7 a0 a1 z.1 z.2.1 z.2.2=some r) ((a0.l.length+1),0,Z5.zero) hE wA ?_;rintro ⟨n7,s10_8,y9_l0⟩ hE K7 hK7
  try dsimp only at hE
  cases n7 with
  | zero=>cases hE
  | succ n7 =>
    rw [Z116_l7] at hE;refine seqR (S BI (nil ?_));refine seqK fun K11 hK11=>?_;refine cE hE (fun hc12 hE=>?_) (fun hc12 hE=>?_)
    ·try dsimp only at hc12
     have hf12:=oD hc12;refine sk hK11 ?_;clear hK11 K11;refine seqK fun K13 hK13=>?_;refine block ?_;refine seqR ?_;obtain⟨x15,gx15,hE⟩:=bO hE;refine S (ix Z5.c s10_8 gx15) (S Ld ?_);refine Sl ?_;refine Sf ?_;refine nil ?_;refine freezeA 7 _ rfl (KA 1 (KA 4 (KA 8 (KA 9 (KA 10 Keeps.nil))))) ?_;refine seqR (S Fv (S Ld (S Mv (S BS (nil ?_)))));refine cE hE (fun hc17 hE=>?_) (fun hc17 hE=>?_)
     ·refine seqR (S Ld ?_);refine Sf ?_;refine S As (nil ?_);exact rt hE
     refine sk hK13 ?_;clear hK13 K13;refine region ?_;refine SI ?_;refine S Mv (nil ?_);exact hK7 _ (n7,(s10_8+1),y9_l0) wA hE (nS _)
    refine AWp.exit ?_;exact hK2 _ y9_l0 wA hE
 rintro y3_l0 hE;try dsimp only at hE
 unfold Z116_j2 at hE;refine seqR (S BU ?_);refine Sf ?_;refine S As (nil ?_);exact rt hE
def Tryz.lay106_ren:Go.Shelf.Ren:=⟨fun|171=>106|243=>129|246=>158|283=>181|284=>182|285=>183|286=>184|129=>193|317=>192|318=>194|319=>195|320=>196|337=>203|338=>204|n=>n,fun|3=>3|9=>9|2=>2|4=>4|171=>200|0=>0|53=>201|37=>150|5=>5|173=>204|212=>210|51=>180|20=>20|213=>211|46=>165|232=>226|233=>227|n=>n,fun|17=>1|18=>4|19=>5|n=>n⟩
theorem Tryz.lay106:Go.Proofs.LaysM.n171 Tryz.prog Tryz.lay106_ren:={
 mixed:=by kernel_rfl
 f129:=Tryz.func193.trans (congrArg some (by kernel_rfl))
 f171:=Tryz.func106.trans (congrArg some (by kernel_rfl))
 f243:=Tryz.func129.trans (congrArg some (by kernel_rfl))
 f246:=Tryz.func158.trans (congrArg some (by kernel_rfl))
 f283:=Tryz.func181.trans (congrArg some (by kernel_rfl))
 f284:=Tryz.func182.trans (congrArg some (by kernel_rfl))
 f285:=Tryz.func183.trans (congrArg some (by kernel_rfl))
 f286:=Tryz.func184.trans (congrArg some (by kernel_rfl))
 f317:=Tryz.func192.trans (congrArg some (by kernel_rfl))
 f318:=Tryz.func194.trans (congrArg some (by kernel_rfl))
 f319:=Tryz.func195.trans (congrArg some (by kernel_rfl))
 f320:=Tryz.func196.trans (congrArg some (by kernel_rfl))
 f337:=Tryz.func203.trans (congrArg some (by kernel_rfl))
 f338:=Tryz.func204.trans (congrArg some (by kernel_rfl))
 t0:=Tryz.underlying0
 a0:=Tryz.isAgg0
 z0:=Tryz.sizeOf0
 v0:=Tryz.zeroValue0
 t2:=Tryz.underlying2
 a2:=Tryz.isAgg2
 z2:=Tryz.sizeOf2
 v2:=Tryz.zeroValue2
 t3:=Tryz.underlying3
 a3:=Tryz.isAgg3
 z3:=Tryz.sizeOf3
 v3:=Tryz.zeroValue3
 t4:=Tryz.underlying4
 a4:=Tryz.isAgg4
 z4:=Tryz.sizeOf4
 v4:=Tryz.zeroValue4
 t5:=Tryz.underlying5
 a5:=Tryz.isAgg5
 z5:=Tryz.sizeOf5
 v5:=Tryz.zeroValue5
 t9:=Tryz.underlying9
 a9:=Tryz.isAgg9
 z9:=Tryz.sizeOf9
 v9:=Tryz.zeroValue9
 t20:=Tryz.underlying20
 a20:=Tryz.isAgg20
 z20:=Tryz.sizeOf20
 v20:=Tryz.zeroValue20
 t37:=Tryz.underlying150
 a37:=Tryz.isAgg150
 z37:=Tryz.sizeOf150
 v37:=Tryz.zeroValue150
 t46:=Tryz.underlying165
 a46:=Tryz.isAgg165
 z46:=Tryz.sizeOf165
 v46:=Tryz.zeroValue165
 t51:=Tryz.underlying180
 a51:=Tryz.isAgg180
 z51:=Tryz.sizeOf180
 v51:=Tryz.zeroValue180
 t53:=Tryz.underlying201
 a53:=Tryz.isAgg201
 z53:=Tryz.sizeOf201
 v53:=Tryz.zeroValue201
 t171:=Tryz.underlying200
 a171:=Tryz.isAgg200
 z171:=Tryz.sizeOf200
 v171:=Tryz.zeroValue200
 t173:=Tryz.underlying204
 a173:=Tryz.isAgg204
 z173:=Tryz.sizeOf204
 v173:=Tryz.zeroValue204
 t212:=Tryz.underlying210
 a212:=Tryz.isAgg210
 z212:=Tryz.sizeOf210
 v212:=Tryz.zeroValue210
 t213:=Tryz.underlying211
 a213:=Tryz.isAgg211
 z213:=Tryz.sizeOf211
 t232:=Tryz.underlying226
 a232:=Tryz.isAgg226
 z232:=Tryz.sizeOf226
 v232:=Tryz.zeroValue226
 t233:=Tryz.underlying227
 a233:=Tryz.isAgg227
 z233:=Tryz.sizeOf227
 v233:=Tryz.zeroValue227
 g17:=by kernel_rfl
 g18:=by kernel_rfl
 g19:=by kernel_rfl
 i0:=by kernel_rfl
 i2:=by kernel_rfl
 i3:=by kernel_rfl
 i4:=by kernel_rfl
 i5:=by kernel_rfl
 i9:=by kernel_rfl
 i20:=by kernel_rfl
 i37:=by kernel_rfl
 i46:=by kernel_rfl
 i51:=by kernel_rfl
 i53:=by kernel_rfl
 i171:=by kernel_rfl
 i173:=by kernel_rfl
 i212:=by kernel_rfl
 i232:=by kernel_rfl
 i233:=by kernel_rfl
 m17:=by kernel_rfl
 m18:=by kernel_rfl
 m19:=by kernel_rfl }
def Z126 (n:Int):Option Bs:=if -9223372036854775808<=n/\n<=9223372036854775807/\(Lib.itoa n).length<=maxS then some (Lib.itoa n) else none
def Z126_q (n:Int):Option Bs:=Z126 n
theorem Z126_eq (n:Int):Z126 n=Z126_q n:=rfl
theorem Z126_walk {a0:Int}{oT:Ab.Obj}{gT:Nat}{r:Bs}(hE:Z126 a0=some r) (H:Heap) (hgT:H gT=some oT) (hoT:IsTab Tryz.prog oT):AC Tryz.prog 106 [.d (.int .i64 a0)] H fun v h'=>v=.a (.d (.str r))/\h'=H:=by
 unfold Z126 at hE
 split at hE
 ·rename_i h
  obtain rfl:=oJ hE;exact itoa_calls Tryz.lay106 h.1 h.2.1 rfl hgT hoT h.2.2
 cases hE
def Z139 (a0:Int):Option Bs:=(Z126 a0).bind fun x3=>some x3
theorem Z139_walk {a0:Int}{oT:Ab.Obj}{gT:Nat}{r:Bs}(hE:Z139 a0=some r) (H:Heap) (hgT:H gT=some oT) (hoT:IsTab Tryz.prog oT):AC Tryz.prog 73 [.d (.int .i64 a0)] H fun v h'=>v=.a (.d (.str r))/\h'=H:=by
 unfold Z139 at hE;refine AC.oW 5 [.tmp 2] Tryz.call73 Tryz.func73 ?_;refine seqR (S As (nil ?_));refine seqR (S Mv ?_);obtain⟨x3,gx3,hE⟩:=bO hE;refine s0 (callR rfl rfl (Z126_walk (gT:=gT) (oT:=oT) gx3 _ hpG (by assumption))) rfl ?_;refine S As (nil ?_);exact rt hE
def Z129 (a0:Strings_Builder) (a1:Bs):Option (Int×Unit×Strings_Builder):=(Z130 a0).bind fun x3=>(appC 1 x3.Fbuf (strSl a1)).bind fun x5=>some (((a1.length:Nat):Int),(),(Strings_Builder.mk x3.Faddr x5))
theorem Z129_walk {a0:Strings_Builder}{a1:Bs}{c0 c0_1:Nat}{r:Int×Unit×Strings_Builder}(hE:Z129 a0 a1=some r) (H:Heap) (hc0:H c0=some (.tcells 152 (Strings_Builder.cg c0 (some c0_1) a0))) (ht0_1:H c0_1=some (.tok 1 a0.Fbuf.l.length (some 5))):AC Tryz.prog 177 [.d (.ptr c0 0),.d (.str a1)] H fun v h'=>v=.tup [.d (.int .i64 r.1),.d (.nilIface)]/\h'=((H.set c0_1 (some (.tok 1 r.2.2.Fbuf.l.length (some 5)))).set c0 (some (.tcells 152 (Strings_Builder.cg c0 (some c0_1) r.2.2)))):=by
 unfold Z129 at hE;refine AC.oW 19 [.tmp 4,.tmp 5] Tryz.call177 Tryz.func177 ?_;have ne_c0_c0_1:c0≠c0_1:=fun e_=>by subst e_; simp_all
 refine AWp.heqA (h':=((H.set c0_1 (some (.tok 1 a0.Fbuf.l.length (some 5)))).set c0 (some (.tcells 152 (Strings_Builder.cg c0 (some c0_1) a0))))) (by funext n_; simp only [Heap.set]; (repeat' split)<;>simp_all) ?_;refine seqR (S As (S As (nil ?_)));refine seqR (S Mv ?_);obtain⟨x3,gx3,hE⟩:=bO hE;refine sH (callH rfl rfl (Z130_walk gx3 _ hpG hpG)) rfl ?_;refine hq ((H.set c0_1 (some (.tok 1 x3.Fbuf.l.length (some 5)))).set c0 (some (.tcells 152 (Strings_Builder.cg c0 (some c0_1) x3)))) ?_
 refine nil ?_;refine seqR (S Mv (S Mv (S NP ?_)));refine s0 (fieldP (TK rfl) rfl rfl (TK rfl) rfl rfl) rfl ?_;refine s0 (loadPT (TK rfl) rfl rfl hpG rfl) rfl ?_;refine S Mv ?_;obtain⟨x5,gx5,hE⟩:=bO hE;refine sH (appST (TK rfl) rfl (TK rfl) (TK rfl) rfl rfl rfl rfl rfl rfl rfl hpG rfl rfl gx5) rfl ?_;refine hq ((H.set c0_1 (some (.tok 1 x5.l.length (some 5)))).set c0 (some (.tcells 152 (Strings_Builder.cg c0 (some c0_1) x3)))) ?_
 refine S NP ?_;refine s0 (fieldP (TK rfl) rfl rfl (TK rfl) rfl rfl) rfl ?_;refine sHn (storePT (TK rfl) rfl rfl hpG rfl (by repeat (first|exact SetAt.zero|apply SetAt.succ))) rfl rfl ?_;refine hq ((H.set c0_1 (some (.tok 1 x5.l.length (some 5)))).set c0 (some (.tcells 152 (Strings_Builder.cg c0 (some c0_1) (Strings_Builder.mk x3.Faddr x5))))) ?_;refine nil ?_;refine seqR (S Mv ?_);refine sLenS (TK rfl) rfl rfl rfl rfl fun hL7=>?_
 refine S As (S As (nil ?_));exact rt hE
def Z141_j7  (y8_id3_3:Strings_Builder):Option Bs:=(Z128 y8_id3_3 (34:Int)).bind fun x10=>(Z127 x10.2).bind fun x12=>some x12
def Z141_j21 (s9_16:Nat) (k_next_15:Nat->Strings_Builder->Option Bs) (y22_id3_3:Strings_Builder):Option Bs:=k_next_15 (s9_16+1) y22_id3_3
def Z141_j27 (s9_16:Nat) (y17_id3_3:Strings_Builder) (x25:UInt8) (k_next_15:Nat->Strings_Builder->Option Bs) (s33_28:Bool):Option Bs:=bif s33_28 then((Z128 y17_id3_3 (92:Int)).bind fun x31=>(Z128 x31.2 ((x25.toNat:Nat):Int)).bind fun x32=>Z141_j21 s9_16 k_next_15 x32.2) else(bif (decide (((x25.toNat:Nat):Int)=(10:Int))) then((Z129 y17_id3_3 ([92,110]:Bs)).bind fun x35=>Z141_j21 s9_16 k_next_15 x35.2.2) else(bif (decide (((x25.toNat:Nat):Int)=(13:Int))) then((Z129 y17_id3_3 ([92,114]:Bs)).bind fun x38=>Z141_j21 s9_16 k_next_15 x38.2.2) else(bif (decide (((x25.toNat:Nat):Int)=(9:Int))) then((Z129 y17_id3_3 ([92,116]:Bs)).bind fun x41=>Z141_j21 s9_16 k_next_15 x41.2.2) else(bif ((decide ((32:Int)<=((x25.toNat:Nat):Int)))&&(decide (((x25.toNat:Nat):Int)<=(126:Int)))) then((Z128 y17_id3_3 ((x25.toNat:Nat):Int)).bind fun x46=>Z141_j21 s9_16 k_next_15 x46.2) else((Z129 y17_id3_3 ([92,117,48,48]:Bs)).bind fun x48=>(idxC ([48,49,50,51,52,53,54,55,56,57,97,98,99,100,101,102]:Bs) (Int.fdiv ((x25.toNat:Nat):Int) (2 ^ (min (Int.toNat 4) (IntKind.bits .u8))))).bind fun x50=>(Z128 x48.2.2 ((x50.toNat:Nat):Int)).bind fun x51=>(idxC ([48,49,50,51,52,53,54,55,56,57,97,98,99,100,101,102]:Bs) (IntKind.wrap .u8 ((BitVec.ofInt (IntKind.bits .u8) ((x25.toNat:Nat):Int) &&& BitVec.ofInt (IntKind.bits .u8) (15:Int)).toNat:Int))).bind fun x52=>(Z128 x51.2 ((x52.toNat:Nat):Int)).bind fun x53=>Z141_j21 s9_16 k_next_15 x53.2)))))
def Z141_l15 (a0:Bs) :Nat->Nat->Strings_Builder->Option Bs
 | 0,_,_=>none
 | n15+1,s9_16,y17_id3_3=>bif (decide (((s9_16:Nat):Int)<((a0.length:Nat):Int))) then((a0[s9_16]?).bind fun x25=>bif (decide (((x25.toNat:Nat):Int)=(34:Int))) then(Z141_j27 s9_16 y17_id3_3 x25 ((Z141_l15 a0 n15)) (decide (((x25.toNat:Nat):Int)=(34:Int)))) else(Z141_j27 s9_16 y17_id3_3 x25 ((Z141_l15 a0 n15)) (decide (((x25.toNat:Nat):Int)=(92:Int))))) else(Z141_j7   y17_id3_3)
def Z141 (a0:Bs):Option Bs:=(Z128 Strings_Builder.zero (34:Int)).bind fun x6=>Z141_l15 a0 (a0.length+1) 0 x6.2
theorem Z141_walk {a0 r:Bs}(hE:Z141 a0=some r) (H:Heap) :AC Tryz.prog 152 [.d (.str a0)] H fun v h'=>v=.a (.d (.str r))/\h'=H:=by
 unfold Z141 at hE;refine AC.oW 51 [.tmp 2] Tryz.call152 Tryz.func152 ?_;refine seqR (S As (nil ?_));refine seqR ?_;refine AOps.tokE 1 5 fun tk3_4 htk3_4=>?_;refine sE (StepE.allocT (TK rfl) rfl) rfl (fun _ _ _ ⟨id3_3,hid3_3,e1,e2,e3⟩=>?_); subst e1 e2 e3;obtain⟨ne_id3_3_tk3_4,hid3_3⟩:=Heap.set_fresh hid3_3;refine AOps.recellT id3_3 _ hpG (fun j w cs hh hx=>tok_cell 1 1 1 hh (t:=tk3_4) hpG hx rfl) ?_
 refine hq ((H.set tk3_4 (some (.tok 1 0 (some 5)))).set id3_3 (some (.tcells 152 (Strings_Builder.cg id3_3 (some tk3_4) Strings_Builder.zero)))) ?_;refine nil ?_;refine seqR ?_;obtain⟨x6,gx6,hE⟩:=bO hE;refine sH (callH rfl rfl (Z128_walk gx6 _ hpG hpG)) rfl ?_;refine hq ((H.set tk3_4 (some (.tok 1 x6.2.Fbuf.l.length (some 5)))).set id3_3 (some (.tcells 152 (Strings_Builder.cg id3_3 (some tk3_4) x6.2)))) ?_
 refine nil ?_;refine seqJH (TA 3 kN) (fun(z:Strings_Builder)=>[]) (fun z=>((H.set tk3_4 (some (.tok 1 z.Fbuf.l.length (some 5)))).set id3_3 (some (.tcells 152 (Strings_Builder.cg id3_3 (some tk3_4) z))))) (fun z=>Z141_j7 z=some r) ?_ ?_
 ·intro K7 hK7;refine seqR (S Mv ?_);refine sLenS (TK rfl) rfl rfl rfl rfl fun hL14=>?_;refine S Mv (nil ?_);refine block ?_;refine loopH (TA 0 (TA 3 (TA 8 kN))) (fun(z:Nat×Nat×Strings_Builder)=>[(9,.a (.d (.int .i64 ((z.2.1:Nat):Int))))]) (fun z=>((H.set tk3_4 (some (.tok 1 z.2.2.Fbuf.l.length (some 5)))).set id3_3 (some (.tcells 152 (Strings_Builder.cg id3_3 (some tk3_4) z.2.2))))) (fun z=>z.1) (fun z=>Z141_l15 a0 z.1 z.2.1 z.2.2=some r) ((a0.length+1),0,x6.2) hE wA ?_
  rintro ⟨n15,s9_16,y17_id3_3⟩ hE K15 hK15;try dsimp only at hE
  cases n15 with
  | zero=>cases hE
  | succ n15 =>
    rw [Z141_l15] at hE;refine seqR (S BI (nil ?_));refine seqK fun K19 hK19=>?_;refine cE hE (fun hc20 hE=>?_) (fun hc20 hE=>?_)
    ·try dsimp only at hc20
     have hf20:=oD hc20;refine sk hK19 ?_;clear hK19 K19;refine seqJH (TA 0 (TA 3 (TA 8 (TA 9 kN)))) (fun(z:Strings_Builder)=>[]) (fun z=>((H.set tk3_4 (some (.tok 1 z.Fbuf.l.length (some 5)))).set id3_3 (some (.tcells 152 (Strings_Builder.cg id3_3 (some tk3_4) z))))) (fun z=>Z141_j21 s9_16 ((Z141_l15 a0 n15)) z=some r) ?_ ?_
     ·intro K21 hK21;refine block ?_;refine seqR (S Mv (S As (nil ?_)));refine seqR (S Mv (S Mv ?_));obtain⟨x25,gx25,hE⟩:=bO hE;refine s0 (idxSn (n:=s9_16) (TK rfl) rfl rfl rfl gx25) rfl ?_;refine S As (nil ?_);refine seqR (S Mv (nil ?_));refine block ?_;refine seqJH (TA 0 (TA 3 (TA 5 (TA 8 (TA 9 (TA 15 kN)))))) (fun(z:Bool)=>[(33,.a (.d (.bool z)))]) (fun z=>((H.set tk3_4 (some (.tok 1 y17_id3_3.Fbuf.l.length (some 5)))).set id3_3 (some (.tcells 152 (Strings_Builder.cg id3_3 (some tk3_4) y17_id3_3))))) (fun z=>Z141_j27 s9_16 y17_id3_3 x25 ((Z141_l15 a0 n15)) z=some r) ?_ ?_
      ·intro K27 hK27;refine seqR (S BI (S As (nil ?_)));refine cE hE (fun hc55 hE=>?_) (fun hc55 hE=>?_)
       ·refine AWp.skip ?_;exact hK27 _ (decide (((x25.toNat:Nat):Int)=(34:Int))) wA hE
       refine region ?_;refine S BI (S As (nil ?_));exact hK27 _ (decide (((x25.toNat:Nat):Int)=(92:Int))) wA hE
      rintro s33_28 hE;try dsimp only at hE
      unfold Z141_j27 at hE;refine cE hE (fun hc29 hE=>?_) (fun hc29 hE=>?_)
      ·refine seqR ?_;obtain⟨x31,gx31,hE⟩:=bO hE;refine sH (callH rfl rfl (Z128_walk gx31 _ hpG hpG)) rfl ?_;refine hq ((H.set tk3_4 (some (.tok 1 x31.2.Fbuf.l.length (some 5)))).set id3_3 (some (.tcells 152 (Strings_Builder.cg id3_3 (some tk3_4) x31.2)))) ?_;refine nil ?_;refine region ?_;refine S Mv ?_;obtain⟨x32,gx32,hE⟩:=bO hE;refine sH (callH rfl rfl (Z128_walk gx32 _ hpG hpG)) rfl ?_;refine hq ((H.set tk3_4 (some (.tok 1 x32.2.Fbuf.l.length (some 5)))).set id3_3 (some (.tcells 152 (Strings_Builder.cg id3_3 (some tk3_4) x32.2)))) ?_
       refine nil ?_;exact hK21 _ x32.2 wA hE
      refine seqR (S BI (S As (nil ?_)));refine cE hE (fun hc34 hE=>?_) (fun hc34 hE=>?_)
      ·refine region ?_;obtain⟨x35,gx35,hE⟩:=bO hE;refine sH (callH rfl rfl (Z129_walk gx35 _ hpG hpG)) rfl ?_;refine hq ((H.set tk3_4 (some (.tok 1 x35.2.2.Fbuf.l.length (some 5)))).set id3_3 (some (.tcells 152 (Strings_Builder.cg id3_3 (some tk3_4) x35.2.2)))) ?_;refine nil ?_;exact hK21 _ x35.2.2 wA hE
      refine seqR (S BI (S As (nil ?_)));refine cE hE (fun hc37 hE=>?_) (fun hc37 hE=>?_)
      ·refine region ?_;obtain⟨x38,gx38,hE⟩:=bO hE;refine sH (callH rfl rfl (Z129_walk gx38 _ hpG hpG)) rfl ?_;refine hq ((H.set tk3_4 (some (.tok 1 x38.2.2.Fbuf.l.length (some 5)))).set id3_3 (some (.tcells 152 (Strings_Builder.cg id3_3 (some tk3_4) x38.2.2)))) ?_;refine nil ?_;exact hK21 _ x38.2.2 wA hE
      refine seqR (S BI (S As (nil ?_)));refine cE hE (fun hc40 hE=>?_) (fun hc40 hE=>?_)
      ·refine region ?_;obtain⟨x41,gx41,hE⟩:=bO hE;refine sH (callH rfl rfl (Z129_walk gx41 _ hpG hpG)) rfl ?_;refine hq ((H.set tk3_4 (some (.tok 1 x41.2.2.Fbuf.l.length (some 5)))).set id3_3 (some (.tcells 152 (Strings_Builder.cg id3_3 (some tk3_4) x41.2.2)))) ?_;refine nil ?_;exact hK21 _ x41.2.2 wA hE
      refine seqK fun K42 hK42=>?_;refine seqR (S Mv (S BI (S Mv (G0 Mv ?_))));refine G1 19 rfl BI ?_;refine S PA (nil ?_);refine cE hE (fun hc44 hE=>?_) (fun hc44 hE=>?_)
      ·refine seqR (S Mv ?_);obtain⟨x46,gx46,hE⟩:=bO hE;refine sH (callH rfl rfl (Z128_walk gx46 _ hpG hpG)) rfl ?_;refine hq ((H.set tk3_4 (some (.tok 1 x46.2.Fbuf.l.length (some 5)))).set id3_3 (some (.tcells 152 (Strings_Builder.cg id3_3 (some tk3_4) x46.2)))) ?_;refine nil ?_;refine AWp.exit ?_;exact hK21 _ x46.2 wA hE
      refine sk hK42 ?_;clear hK42 K42;refine seqR ?_;obtain⟨x48,gx48,hE⟩:=bO hE;refine sH (callH rfl rfl (Z129_walk gx48 _ hpG hpG)) rfl ?_;refine hq ((H.set tk3_4 (some (.tok 1 x48.2.2.Fbuf.l.length (some 5)))).set id3_3 (some (.tcells 152 (Strings_Builder.cg id3_3 (some tk3_4) x48.2.2)))) ?_;refine nil ?_;refine seqR (S Mv ?_);refine s0 (shrI rfl rfl (by decide)) rfl ?_;obtain⟨x50,gx50,hE⟩:=bO hE
      refine s0 (idxS (TK rfl) rfl rfl rfl gx50) rfl ?_;obtain⟨x51,gx51,hE⟩:=bO hE;refine sH (callH rfl rfl (Z128_walk gx51 _ hpG hpG)) rfl ?_;refine hq ((H.set tk3_4 (some (.tok 1 x51.2.Fbuf.l.length (some 5)))).set id3_3 (some (.tcells 152 (Strings_Builder.cg id3_3 (some tk3_4) x51.2)))) ?_;refine nil ?_;refine region ?_;refine S Mv ?_;refine s0 (andI rfl rfl) rfl ?_;obtain⟨x52,gx52,hE⟩:=bO hE;refine s0 (idxS (TK rfl) rfl rfl rfl gx52) rfl ?_
      obtain⟨x53,gx53,hE⟩:=bO hE;refine sH (callH rfl rfl (Z128_walk gx53 _ hpG hpG)) rfl ?_;refine hq ((H.set tk3_4 (some (.tok 1 x53.2.Fbuf.l.length (some 5)))).set id3_3 (some (.tcells 152 (Strings_Builder.cg id3_3 (some tk3_4) x53.2)))) ?_;refine nil ?_;exact hK21 _ x53.2 wA hE
     rintro y22_id3_3 hE;try dsimp only at hE
     unfold Z141_j21 at hE;refine region ?_;refine SI ?_;refine S Mv (nil ?_);exact hK15 _ (n15,(s9_16+1),y22_id3_3) wA hE (nS _)
    refine AWp.exit ?_;exact hK7 _ y17_id3_3 wA hE
 rintro y8_id3_3 hE;try dsimp only at hE
 unfold Z141_j7 at hE;refine seqR ?_;obtain⟨x10,gx10,hE⟩:=bO hE;refine sH (callH rfl rfl (Z128_walk gx10 _ hpG hpG)) rfl ?_;refine hq ((H.set tk3_4 (some (.tok 1 x10.2.Fbuf.l.length (some 5)))).set id3_3 (some (.tcells 152 (Strings_Builder.cg id3_3 (some tk3_4) x10.2)))) ?_;refine nil ?_;refine seqR ?_;obtain⟨x12,gx12,hE⟩:=bO hE;refine sH (callH rfl rfl (Z127_walk gx12 _ hpG hpG)) rfl ?_;refine hq H ?_
 refine S As (nil ?_);exact rt hE
section
variable [IsLoud lou]
def Tryz.lay153_ren:Go.Shelf.Ren:=⟨fun|156=>153|165=>178|166=>177|169=>116|240=>148|241=>191|276=>174|277=>202|n=>n,fun|31=>44|9=>9|3=>3|4=>4|0=>0|20=>20|72=>152|76=>190|70=>149|37=>150|75=>154|127=>176|164=>195|5=>5|80=>156|n=>n,fun|n=>n⟩
theorem Tryz.lay153:Go.Proofs.Lays.n156 Tryz.prog Tryz.lay153_ren:={
 mixed:=by kernel_rfl
 f156:=Tryz.func153.trans (congrArg some (by kernel_rfl))
 f165:=Tryz.func178.trans (congrArg some (by kernel_rfl))
 f166:=Tryz.func177.trans (congrArg some (by kernel_rfl))
 f169:=Tryz.func116.trans (congrArg some (by kernel_rfl))
 f240:=Tryz.func148.trans (congrArg some (by kernel_rfl))
 f241:=Tryz.func191.trans (congrArg some (by kernel_rfl))
 f276:=Tryz.func174.trans (congrArg some (by kernel_rfl))
 f277:=Tryz.func202.trans (congrArg some (by kernel_rfl))
 t0:=Tryz.underlying0
 a0:=Tryz.isAgg0
 z0:=Tryz.sizeOf0
 v0:=Tryz.zeroValue0
 t3:=Tryz.underlying3
 a3:=Tryz.isAgg3
 z3:=Tryz.sizeOf3
 v3:=Tryz.zeroValue3
 t4:=Tryz.underlying4
 a4:=Tryz.isAgg4
 z4:=Tryz.sizeOf4
 v4:=Tryz.zeroValue4
 t9:=Tryz.underlying9
 a9:=Tryz.isAgg9
 z9:=Tryz.sizeOf9
 v9:=Tryz.zeroValue9
 t20:=Tryz.underlying20
 a20:=Tryz.isAgg20
 z20:=Tryz.sizeOf20
 v20:=Tryz.zeroValue20
 t31:=Tryz.underlying44
 a31:=Tryz.isAgg44
 z31:=Tryz.sizeOf44
 v31:=Tryz.zeroValue44
 t37:=Tryz.underlying150
 a37:=Tryz.isAgg150
 z37:=Tryz.sizeOf150
 v37:=Tryz.zeroValue150
 t70:=Tryz.underlying149
 a70:=Tryz.isAgg149
 z70:=Tryz.sizeOf149
 v70:=Tryz.zeroValue149
 t72:=Tryz.underlying152
 a72:=Tryz.isAgg152
 z72:=Tryz.sizeOf152
 v72:=Tryz.zeroValue152
 t75:=Tryz.underlying154
 a75:=Tryz.isAgg154
 z75:=Tryz.sizeOf154
 v75:=Tryz.zeroValue154
 t76:=Tryz.underlying190
 a76:=Tryz.isAgg190
 z76:=Tryz.sizeOf190
 v76:=Tryz.zeroValue190
 t127:=Tryz.underlying176
 a127:=Tryz.isAgg176
 z127:=Tryz.sizeOf176
 v127:=Tryz.zeroValue176
 t164:=Tryz.underlying195
 a164:=Tryz.isAgg195
 z164:=Tryz.sizeOf195
 v164:=Tryz.zeroValue195 }
theorem Tryz.extra153:Builder.Extra Tryz.prog Tryz.lay153_ren where
 sizeBuilder:=by kernel_rfl
 liesBuilder:=by kernel_rfl
 t5:=Tryz.underlying5
 a5:=Tryz.isAgg5
 z5:=Tryz.sizeOf5
 v5:=Tryz.zeroValue5
 infoByte:=by kernel_rfl
 cellsByte:=by kernel_rfl
 sizeByte:=by kernel_rfl
 neB5:=by decide
def Z138 (s:Sl Bs) (sep:Bs):Option Bs:=joinA s sep
theorem Z138_walk {a0:Sl Bs}{a1:Bs}{w0:Option Nat}{r:Bs}(hE:Z138 a0 a1=some r) (H:Heap):AC Tryz.prog 153 [.d (Sl.d 1 strE w0 a0),.d (.str a1)] H fun v h'=>v=.a (.d (.str r))/\h'=H:=joinA_calls Tryz.lay153 Tryz.extra153 hE rfl
end
end Go.Proofs
