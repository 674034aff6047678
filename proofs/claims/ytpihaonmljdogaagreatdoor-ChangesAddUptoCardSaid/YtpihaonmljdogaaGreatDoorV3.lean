import Derived.Test.YtpihaonmljdogaaGreatDoorV2
set_option maxRecDepth 100000
set_option maxHeartbeats 2000000
set_option linter.unusedVariables false
set_option linter.unusedSimpArgs false
namespace Go.Proofs
open Go Go.Ab
open AOps Cert AWp Keeps KeepsT
variable {lou:Lou}
def Z67_j7  (s5_8:(Sl Z3)):Option (Sl Z3):=some s5_8
def Z67_j3 (a0:TDoc) (a1:Bool)  (s5_4:(Sl Z3)):Option (Sl Z3):=(Z69 a0 ([81,117,101,114,121]:Bs)).bind fun x6=>bif (a1&&(!x6.2)) then((appC 24 s5_4 (⟨false,[(Z3.mk (30:Int) ([81,117,101,114,121]:Bs))]⟩:Sl Z3)).bind fun x12=>Z67_j7   x12) else(Z67_j7   s5_4)
def Z67_j21 (s6_16:Nat) (k_next_14:(Sl Z3)->Nat->Option (Sl Z3)) (s5_22:(Sl Z3)):Option (Sl Z3):=k_next_14 s5_22 (s6_16+1)
def Z67_j29 (a0:TDoc) (s6_16:Nat) (x24:TDef) (x27:(Sl Z3)) (k_next_14:(Sl Z3)->Nat->Option (Sl Z3)) (s29_30:Bool):Option (Sl Z3):=bif s29_30 then((Z78 a0 x24).bind fun x32=>(appC 24 x27 x32).bind fun x33=>Z67_j21 s6_16 k_next_14 x33) else(bif (decide (x24.FKind=(4:Int))) then((Z82 x24).bind fun x36=>(appC 24 x27 x36).bind fun x37=>Z67_j21 s6_16 k_next_14 x37) else(bif (decide (x24.FKind=(5:Int))) then((catC x24.FName ([46]:Bs)).bind fun x40=>(Z80 a0 x24.FInputs x40 ([]:Bs)).bind fun x41=>(appC 24 x27 x41).bind fun x42=>Z67_j21 s6_16 k_next_14 x42) else(Z67_j21 s6_16 k_next_14 x27)))
def Z67_l14 (a0:TDoc) (a1:Bool) :Nat->(Sl Z3)->Nat->Option (Sl Z3)
 | 0,_,_=>none
 | n14+1,s5_15,s6_16=>bif (decide (((s6_16:Nat):Int)<((a0.FDefs.l.length:Nat):Int))) then((a0.FDefs.l[s6_16]?).bind fun x24=>(Z85 a0 ((s6_16:Nat):Int)).bind fun x26=>(appC 24 s5_15 x26).bind fun x27=>bif (decide (x24.FKind=(1:Int))) then(Z67_j29 a0 s6_16 x24 x27 ((Z67_l14 a0 a1 n14)) (decide (x24.FKind=(1:Int)))) else(Z67_j29 a0 s6_16 x24 x27 ((Z67_l14 a0 a1 n14)) (decide (x24.FKind=(2:Int))))) else(Z67_j3 a0 a1  s5_15)
def Z67 (a0:TDoc) (a1:Bool):Option (Sl Z3):=Z67_l14 a0 a1 (a0.FDefs.l.length+1) (Sl.nil:Sl Z3) 0
theorem Z67_walk {a0:TDoc}{a1:Bool}{r:Sl Z3}(hE:Z67 a0 a1=some r) (H:Heap) :ACalls Tryz.prog 12 [.agg (TDoc.c a0),.d (.bool a1)] H fun v h'=>v=.a (.d (Sl.d 2 Z3.c none r))/\h'=H:=by
 unfold Z67 at hE;refine ACalls.oW 69 [.tmp 4] Tryz.call12 Tryz.func12 ?_;refine AWp.tok 2 fun tk1 htk1=>?_;refine seqR (S BX ?_);refine s0 (assignNil (k':=2) rfl) rfl ?_;refine nil ?_;refine seqR (S As (nil ?_));refine AWp.nilTok 5 2 tk1 rfl hpG ?_;refine seqJH (TA 1 (TA 2 KeepsT.nil)) (fun(z:(Sl Z3))=>[(5,.a (.d (Sl.d 2 Z3.c (some tk1) z)))]) (fun z=>(H.set tk1 (some (.tok 2 z.l.length)))) (fun z=>Z67_j3 a0 a1 z=some r) ?_ ?_
 ·intro K3 hK3;refine seqR (S As (nil ?_));refine block ?_;refine loopH (TA 1 (TA 2 KeepsT.nil)) (fun(z:Nat×(Sl Z3)×Nat)=>[(5,.a (.d (Sl.d 2 Z3.c (some tk1) z.2.1))),(6,.a (.d (.int .i64 ((z.2.2:Nat):Int))))]) (fun z=>(H.set tk1 (some (.tok 2 z.2.1.l.length)))) (fun z=>z.1) (fun z=>Z67_l14 a0 a1 z.1 z.2.1 z.2.2=some r) ((a0.FDefs.l.length+1),(Sl.nil:Sl Z3),0) hE Weak.toA ?_;rintro ⟨n14,s5_15,s6_16⟩ hE K14 hK14
  try dsimp only at hE
  cases n14 with
  | zero=>cases hE
  | succ n14 =>
    rw [Z67_l14] at hE;refine seqK fun K17 hK17=>?_;refine seqR (S Mv (S Fv (S Ld ?_)));refine sLen (f:=TDef.c) (s:=a0.FDefs) (TK rfl) rfl rfl rfl rfl fun hL19=>?_;refine S BI (nil ?_);refine cE hE (fun hc20 hE=>?_) (fun hc20 hE=>?_)
    ·try dsimp only at hc20
     have hf20:=of_decide_eq_true hc20;refine sk hK17 ?_;clear hK17 K17;refine seqJH (TA 1 (TA 2 (TA 6 KeepsT.nil))) (fun(z:(Sl Z3))=>[(5,.a (.d (Sl.d 2 Z3.c (some tk1) z)))]) (fun z=>(H.set tk1 (some (.tok 2 z.l.length)))) (fun z=>Z67_j21 s6_16 ((Z67_l14 a0 a1 n14)) z=some r) ?_ ?_
     ·intro K21 hK21;refine block ?_;refine seqR (S Fv (S Ld (S Mv ?_)));obtain⟨x24,gx24,hE⟩:=bO hE;refine S (ix TDef.c s6_16 gx24) (S Ld ?_);refine Sl ?_;refine Sf ?_;refine nil ?_;refine freezeA 7 _ rfl (KA 1 (KA 2 (KA 5 (KA 6 Keeps.nil)))) ?_;refine seqR (S Mv (S Ld (S Mv ?_)));obtain⟨x26,gx26,hE⟩:=bO hE;refine Sc rfl rfl (Z85_walk gx26) ?_;obtain⟨x27,gx27,hE⟩:=bO hE;refine SH (am Z3.c (TK rfl) rfl (TK rfl) (TK rfl) gx27) ?_
      refine hq (H.set tk1 (some (.tok 2 x27.l.length))) ?_;refine S As (nil ?_);refine seqR (S Fv (S Ld (nil ?_)));refine block ?_;refine seqJH (TA 1 (TA 2 (TA 5 (TA 6 (TA 7 (TA 28 KeepsT.nil)))))) (fun(z:Bool)=>[(29,.a (.d (.bool z)))]) (fun z=>(H.set tk1 (some (.tok 2 x27.l.length)))) (fun z=>Z67_j29 a0 s6_16 x24 x27 ((Z67_l14 a0 a1 n14)) z=some r) ?_ ?_
      ·intro K29 hK29;refine seqR (S BI (S As (nil ?_)));refine cE hE (fun hc44 hE=>?_) (fun hc44 hE=>?_)
       ·refine AWp.skip ?_;exact hK29 _ (decide (x24.FKind=(1:Int))) Weak.toA hE
       refine region ?_;refine S BI (S As (nil ?_));exact hK29 _ (decide (x24.FKind=(2:Int))) Weak.toA hE
      rintro s29_30 hE;try dsimp only at hE
      unfold Z67_j29 at hE;refine cE hE (fun hc31 hE=>?_) (fun hc31 hE=>?_)
      ·refine region ?_;refine S Mv (S Ld (S Ld ?_));obtain⟨x32,gx32,hE⟩:=bO hE;refine Sc rfl rfl (Z78_walk gx32) ?_;obtain⟨x33,gx33,hE⟩:=bO hE;refine SH (am Z3.c (TK rfl) rfl (TK rfl) (TK rfl) gx33) ?_;refine hq (H.set tk1 (some (.tok 2 x33.l.length))) ?_;refine S As (nil ?_);exact hK21 _ x33 Weak.toA hE
      refine seqR (S BI (S As (nil ?_)));refine cE hE (fun hc35 hE=>?_) (fun hc35 hE=>?_)
      ·refine region ?_;refine S Mv (S Ld ?_);obtain⟨x36,gx36,hE⟩:=bO hE;refine Sc rfl rfl (Z82_walk gx36) ?_;obtain⟨x37,gx37,hE⟩:=bO hE;refine SH (am Z3.c (TK rfl) rfl (TK rfl) (TK rfl) gx37) ?_;refine hq (H.set tk1 (some (.tok 2 x37.l.length))) ?_;refine S As (nil ?_);exact hK21 _ x37 Weak.toA hE
      refine seqR (S BI (S As (nil ?_)));refine cE hE (fun hc39 hE=>?_) (fun hc39 hE=>?_)
      ·refine region ?_;refine S Mv (S Ld (S Fv (S Ld (S Fv (S Ld ?_)))));obtain⟨x40,gx40,hE⟩:=bO hE;refine s0 (catM rfl rfl gx40) rfl ?_;obtain⟨x41,gx41,hE⟩:=bO hE;refine Sc rfl rfl (Z80_walk gx41) ?_;obtain⟨x42,gx42,hE⟩:=bO hE;refine SH (am Z3.c (TK rfl) rfl (TK rfl) (TK rfl) gx42) ?_;refine hq (H.set tk1 (some (.tok 2 x42.l.length))) ?_;refine S As (nil ?_);exact hK21 _ x42 Weak.toA hE
      refine AWp.skip ?_;exact hK21 _ x27 Weak.toA hE
     rintro s5_22 hE;try dsimp only at hE
     unfold Z67_j21 at hE;refine region ?_;refine S Mv ?_;refine SI ?_;refine S As (nil ?_);exact hK14 _ (n14,s5_22,(s6_16+1)) Weak.toA hE (Nat.lt_succ_self _)
    refine AWp.exit ?_;exact hK3 _ s5_15 Weak.toA hE
 rintro s5_4 hE;try dsimp only at hE
 unfold Z67_j3 at hE;refine seqR (S Ld ?_);obtain⟨x6,gx6,hE⟩:=bO hE;refine Sc rfl rfl (Z69_walk gx6) ?_;refine S Mv (S EX (S EX ?_));refine Sl ?_;refine Sf ?_;refine S As (nil ?_);refine freezeA 8 _ rfl (KA 1 (KA 5 (KA 9 Keeps.nil))) ?_;refine seqJH KeepsT.nil (fun(z:(Sl Z3))=>[(5,.a (.d (Sl.d 2 Z3.c (some tk1) z)))]) (fun z=>(H.set tk1 (some (.tok 2 z.l.length)))) (fun z=>Z67_j7 z=some r) ?_ ?_
 ·intro K7 hK7;refine seqR (S Mv (S Mv (G0 Mv ?_)));refine G1 61 rfl NB ?_;refine S PA (nil ?_);refine cE hE (fun hc11 hE=>?_) (fun hc11 hE=>?_)
  ·refine region ?_;refine S Mv (S BU (S BV ?_));obtain⟨x12,gx12,hE⟩:=bO hE;refine SH (am Z3.c (TK rfl) rfl (TK rfl) (TK rfl) gx12) ?_;refine hq (H.set tk1 (some (.tok 2 x12.l.length))) ?_;refine S As (nil ?_);exact hK7 _ x12 Weak.toA hE
  refine AWp.skip ?_;exact hK7 _ s5_4 Weak.toA hE
 rintro s5_8 hE;try dsimp only at hE
 unfold Z67_j7 at hE;refine seqR (S Mv (S As (nil ?_)));refine AWp.dropTok 4 rfl ?_;refine AWp.ret ?_;repeat (first|refine xBlock_ret ?_|refine xThen_ret ?_)
 obtain rfl:=Option.some.inj hE;refine retQ.retF H rfl ⟨rfl,rfl⟩ ?_
 first|exact Heap.sub_set htk1|(simp only [Heap.set_set]; exact Heap.sub_set htk1)
def Z93 (a0:TDoc) (a1:Bs) (a2:Int):Option Int:=(Z69 a0 a1).bind fun x3=>guardO ((!x3.2)) (Z73 a1) false fun x6=>bif ((!x3.2)&&(!x6)) then(some (8:Int)) else(bif (!decide (x3.1.FKind=a2)) then(some (9:Int)) else(some (0:Int)))
theorem Z93_walk {a0:TDoc}{a1:Bs}{a2 r:Int}(hE:Z93 a0 a1 a2=some r) (H:Heap) :ACalls Tryz.prog 66 [.agg (TDoc.c a0),.d (.str a1),.d (.int .i64 a2)] H fun v h'=>v=.a (.d (.int .i64 r))/\h'=H:=by
 unfold Z93 at hE;refine ACalls.oW 26 [.tmp 6] Tryz.call66 Tryz.func66 ?_;refine seqR (S BX (S As (nil ?_)));refine seqR (S Ld (S Mv ?_));obtain⟨x3,gx3,hE⟩:=bO hE;refine Sc rfl rfl (Z69_walk gx3) ?_;refine S Mv (S EX (S EX ?_));refine Sl ?_;refine Sf ?_;refine S As (nil ?_);refine freezeA 7 _ rfl (KA 1 (KA 2 (KA 8 Keeps.nil))) ?_;refine seqK fun K4 hK4=>?_;refine seqR (S Mv (S NB (S Mv (G0 Mv ?_))))
 obtain⟨x6,gx6,hE⟩:=gO hE;refine Gc1 18 rfl rfl rfl rfl rfl (fun hC=>Z73_walk (gx6 hC)) ?_;refine G1 19 rfl NB ?_;refine S PA (nil ?_);refine cE hE (fun hc7 hE=>?_) (fun hc7 hE=>?_)
 ·refine seqR (S As (nil ?_));exact rt hE
 refine sk hK4 ?_;clear hK4 K4;refine seqK fun K9 hK9=>?_;refine seqR (S Fv (S Ld (S Mv (S BI (nil ?_)))));refine cE hE (fun hc11 hE=>?_) (fun hc11 hE=>?_)
 ·refine seqR (S As (nil ?_));exact rt hE
 refine sk hK9 ?_;clear hK9 K9;refine seqR (S As (nil ?_));exact rt hE
def Z92_j2  :Option Bool:=some false
def Z92_l5 (a0:(Sl Bs)) (a1:Bs) :Nat->Nat->Option Bool
 | 0,_=>none
 | n5+1,s5_6=>bif (decide (((s5_6:Nat):Int)<((a0.l.length:Nat):Int))) then((a0.l[s5_6]?).bind fun x13=>bif ((x13==a1)) then(some true) else((Z92_l5 a0 a1 n5) (s5_6+1))) else(Z92_j2   )
def Z92 (a0:(Sl Bs)) (a1:Bs):Option Bool:=Z92_l5 a0 a1 (a0.l.length+1) 0
theorem Z92_walk {a0:Sl Bs}{a1:Bs}{w0:Option Nat}{r:Bool}(hE:Z92 a0 a1=some r) (H:Heap) :ACalls Tryz.prog 67 [.d (Sl.d 1 strE w0 a0),.d (.str a1)] H fun v h'=>v=.a (.d (.bool r))/\h'=H:=by
 unfold Z92 at hE;refine ACalls.oW 18 [.tmp 4] Tryz.call67 Tryz.func67 ?_;refine seqR (S As (nil ?_));refine seqJH KeepsT.nil (fun(z:Unit)=>[]) (fun z=>H) (fun z=>Z92_j2 =some r) ?_ ?_
 ·intro K2 hK2;refine seqR (S As (nil ?_));refine block ?_;refine loopH (TA 0 (TA 1 KeepsT.nil)) (fun(z:Nat×Nat)=>[(5,.a (.d (.int .i64 ((z.2:Nat):Int))))]) (fun z=>H) (fun z=>z.1) (fun z=>Z92_l5 a0 a1 z.1 z.2=some r) ((a0.l.length+1),0) hE Weak.toA ?_;rintro ⟨n5,s5_6⟩ hE K5 hK5;try dsimp only at hE
  cases n5 with
  | zero=>cases hE
  | succ n5 =>
    rw [Z92_l5] at hE;refine seqK fun K7 hK7=>?_;refine seqR (S Mv (S Mv ?_));refine sLen (f:=strE) (s:=a0) (TK rfl) rfl rfl rfl rfl fun hL9=>?_;refine S BI (nil ?_);refine cE hE (fun hc10 hE=>?_) (fun hc10 hE=>?_)
    ·try dsimp only at hc10
     have hf10:=of_decide_eq_true hc10;refine sk hK7 ?_;clear hK7 K7;refine seqK fun K11 hK11=>?_;refine block ?_;refine seqR (S Mv (S Mv ?_));obtain⟨x13,gx13,hE⟩:=bO hE;refine S (ix strE s5_6 gx13) (S Ld (S Mv (S BS (nil ?_))));refine cE hE (fun hc14 hE=>?_) (fun hc14 hE=>?_)
     ·refine seqR (S As (nil ?_));exact rt hE
     refine sk hK11 ?_;clear hK11 K11;refine region ?_;refine S Mv ?_;refine SI ?_;refine S As (nil ?_);exact hK5 _ (n5,(s5_6+1)) Weak.toA hE (Nat.lt_succ_self _)
    refine AWp.exit ?_;exact hK2 _ () Weak.toA hE
 rintro _ hE;try dsimp only at hE
 unfold Z92_j2 at hE;refine seqR (S As (nil ?_));exact rt hE
def Z55_j8  :Option Bool:=some true
def Z55_l11 (a0:(Sl Int)) (a1:(Sl Int)) :Nat->Nat->Option Bool
 | 0,_=>none
 | n11+1,s5_12=>bif (decide (((s5_12:Nat):Int)<((a0.l.length:Nat):Int))) then((a0.l[s5_12]?).bind fun x19=>(a1.l[s5_12]?).bind fun x20=>bif (!decide (x19=x20)) then(some false) else((Z55_l11 a0 a1 n11) (s5_12+1))) else(Z55_j8   )
def Z55 (a0:(Sl Int)) (a1:(Sl Int)):Option Bool:=bif (!decide (((a0.l.length:Nat):Int)=((a1.l.length:Nat):Int))) then(some false) else(Z55_l11 a0 a1 (a0.l.length+1) 0)
theorem Z55_walk {a0 a1:Sl Int}{w0 w1:Option Nat}{r:Bool}(hE:Z55 a0 a1=some r) (H:Heap) :ACalls Tryz.prog 50 [.d (Sl.d 1 (intE .i64) w0 a0),.d (Sl.d 1 (intE .i64) w1 a1)] H fun v h'=>v=.a (.d (.bool r))/\h'=H:=by
 unfold Z55 at hE;refine ACalls.oW 26 [.tmp 4] Tryz.call50 Tryz.func50 ?_;refine seqR (S As (nil ?_));refine seqK fun K2 hK2=>?_;refine seqR (S Mv ?_);refine sLen (f:=(intE .i64)) (s:=a0) (TK rfl) rfl rfl rfl rfl fun hL4=>?_;refine S Mv ?_;refine sLen (f:=(intE .i64)) (s:=a1) (TK rfl) rfl rfl rfl rfl fun hL5=>?_;refine S BI (nil ?_);refine cE hE (fun hc6 hE=>?_) (fun hc6 hE=>?_)
 ·refine seqR (S As (nil ?_));exact rt hE
 refine sk hK2 ?_;clear hK2 K2;refine seqJH KeepsT.nil (fun(z:Unit)=>[]) (fun z=>H) (fun z=>Z55_j8 =some r) ?_ ?_
 ·intro K8 hK8;refine seqR (S As (nil ?_));refine block ?_;refine loopH (TA 0 (TA 1 KeepsT.nil)) (fun(z:Nat×Nat)=>[(5,.a (.d (.int .i64 ((z.2:Nat):Int))))]) (fun z=>H) (fun z=>z.1) (fun z=>Z55_l11 a0 a1 z.1 z.2=some r) ((a0.l.length+1),0) hE Weak.toA ?_;rintro ⟨n11,s5_12⟩ hE K11 hK11;try dsimp only at hE
  cases n11 with
  | zero=>cases hE
  | succ n11 =>
    rw [Z55_l11] at hE;refine seqK fun K13 hK13=>?_;refine seqR (S Mv (S Mv ?_));refine sLen (f:=(intE .i64)) (s:=a0) (TK rfl) rfl rfl rfl rfl fun hL15=>?_;refine S BI (nil ?_);refine cE hE (fun hc16 hE=>?_) (fun hc16 hE=>?_)
    ·try dsimp only at hc16
     have hf16:=of_decide_eq_true hc16;refine sk hK13 ?_;clear hK13 K13;refine seqK fun K17 hK17=>?_;refine block ?_;refine AWp.seqD (Sd Mv (Sd Mv ?_));obtain⟨x19,gx19,hE⟩:=bO hE;refine Sd (ix (intE .i64) s5_12 gx19) ?_;refine Sd Ld (Sd Mv (Sd Mv ?_));obtain⟨x20,gx20,hE⟩:=bO hE;refine Sd (ix (intE .i64) s5_12 gx20) ?_;refine Sd Ld (Sd BI ?_);refine DOps.nil (by decide +kernel) ?_;refine cE hE (fun hc21 hE=>?_) (fun hc21 hE=>?_)
     ·refine seqR (S As (nil ?_));exact rt hE
     refine sk hK17 ?_;clear hK17 K17;refine region ?_;refine S Mv ?_;refine SI ?_;refine S As (nil ?_);exact hK11 _ (n11,(s5_12+1)) Weak.toA hE (Nat.lt_succ_self _)
    refine AWp.exit ?_;exact hK8 _ () Weak.toA hE
 rintro _ hE;try dsimp only at hE
 unfold Z55_j8 at hE;refine seqR (S As (nil ?_));exact rt hE
def Z53 (a0:TRef) (a1:TRef):Option Bool:=guardO (((a0.FName==a1.FName))) (Z55 a0.FWraps a1.FWraps) false fun x3=>some (((a0.FName==a1.FName))&&x3)
theorem Z53_walk {a0 a1:TRef}{r:Bool}(hE:Z53 a0 a1=some r) (H:Heap) :ACalls Tryz.prog 24 [.agg (TRef.c a0),.agg (TRef.c a1)] H fun v h'=>v=.a (.d (.bool r))/\h'=H:=by
 unfold Z53 at hE;refine ACalls.oW 17 [.tmp 4] Tryz.call24 Tryz.func24 ?_;refine seqR (S BX (S BX (S As (nil ?_))));refine seqR (S Fv (S Ld (S Fv (S Ld (S BS (S Mv (G0 Fv ?_)))))));refine G1 11 rfl Ld ?_;refine G0 Fv ?_;refine G1 13 rfl Ld ?_;obtain⟨x3,gx3,hE⟩:=gO hE;refine Gc2 12 14 rfl rfl rfl rfl rfl rfl (fun hC=>Z55_walk (gx3 hC)) ?_;refine S PA (S As (nil ?_));exact rt hE
def Z50 (a0:TRef):Option Bool:=guardO ((decide ((0:Int)<((a0.FWraps.l.length:Nat):Int)))) (a0.FWraps.l[0]?) (0:Int) fun x4=>some ((decide ((0:Int)<((a0.FWraps.l.length:Nat):Int)))&&(decide (x4=(1:Int))))
theorem Z50_walk {a0:TRef}{r:Bool}(hE:Z50 a0=some r) (H:Heap) :ACalls Tryz.prog 98 [.agg (TRef.c a0)] H fun v h'=>v=.a (.d (.bool r))/\h'=H:=by
 unfold Z50 at hE;refine ACalls.oW 14 [.tmp 2] Tryz.call98 Tryz.func98 ?_;refine seqR (S BX (S As (nil ?_)));refine seqR (S Fv (S Ld ?_));refine sLen (f:=(intE .i64)) (s:=a0.FWraps) (TK rfl) rfl rfl rfl rfl fun hL3=>?_;refine S BI (S Mv (G0 Fv ?_));refine G1 8 rfl Ld ?_;obtain⟨x4,gx4,hE⟩:=gO hE;refine gC rfl rfl (fun hC=>ungdA (k:=9) rfl (idxMn (f:=(intE .i64)) (n:=0) (TK rfl) rfl (TK rfl) rfl rfl rfl (gx4 hC))) rfl ?_
 refine G1 10 rfl Ld ?_;refine G1 11 rfl BI ?_;refine S PA (S As (nil ?_));exact rt hE
def Z54 (a0:TRef):Option TRef:=(partC a0.FWraps (some (1:Int)) none).bind fun x3=>(appC 8 (⟨false,[]⟩:Sl Int) x3).bind fun x4=>some (TRef.mk a0.FName x4)
theorem Z54_walk {a0 r:TRef}(hE:Z54 a0=some r) (H:Heap) :ACalls Tryz.prog 152 [.agg (TRef.c a0)] H fun v h'=>v=.a (.agg (TRef.c r))/\h'=H:=by
 unfold Z54 at hE;refine ACalls.oW 11 [.cell 2 49] Tryz.call152 Tryz.func152 ?_;refine seqR (S BX ?_);refine Sl ?_;refine nil ?_;refine AWp.seqD (Sd Fv (Sd Ld ?_));refine DOps.s0 (buildSliceF (TK rfl) rfl (TK rfl) rfl rfl rfl rfl rfl rfl) rfl ?_;refine Sd Fv (Sd Ld ?_);obtain⟨x3,gx3,hE⟩:=bO hE;refine DOps.s0 (partM (f:=(intE .i64)) (l:=(some (1:Int))) (r:=none) (TK rfl) rfl (TK rfl) rfl rfl rfl trivial gx3) rfl ?_
 obtain⟨x4,gx4,hE⟩:=bO hE;refine DOps.s0 (appFM (f:=(intE .i64)) (TK rfl) rfl (TK rfl) (TK rfl) ⟨_,rfl⟩ rfl rfl (by decide) rfl rfl rfl (by intro q h; cases h<;>decide) rfl rfl gx4) rfl ?_;refine Sd BU ?_;refine DOps.sLn (storeLFA (TK rfl) rfl rfl rfl rfl rfl) ?_;refine DOps.nil (by decide +kernel) ?_;exact rt hE
def Z51 (a0:TRef):Option TRef:=(Z50 a0).bind fun x4=>bif x4 then((Z54 a0).bind fun x7=>some x7) else((appC 8 (⟨false,[]⟩:Sl Int) a0.FWraps).bind fun x9=>some (TRef.mk a0.FName x9))
theorem Z51_walk {a0 r:TRef}(hE:Z51 a0=some r) (H:Heap) :ACalls Tryz.prog 126 [.agg (TRef.c a0)] H fun v h'=>v=.a (.agg (TRef.c r))/\h'=H:=by
 unfold Z51 at hE;refine ACalls.oW 14 [.cell 2 49] Tryz.call126 Tryz.func126 ?_;refine seqR (S BX ?_);refine Sl ?_;refine nil ?_;refine seqK fun K2 hK2=>?_;refine seqR (S Ld ?_);obtain⟨x4,gx4,hE⟩:=bO hE;refine Sc rfl rfl (Z50_walk gx4) ?_;refine nil ?_;refine cE hE (fun hc5 hE=>?_) (fun hc5 hE=>?_)
 ·refine seqR (S Ld ?_);obtain⟨x7,gx7,hE⟩:=bO hE;refine Sc rfl rfl (Z54_walk gx7) ?_;refine Sf ?_;refine nil ?_;exact rt hE
 refine sk hK2 ?_;clear hK2 K2;refine AWp.seqD (Sd Fv (Sd Ld ?_));refine DOps.s0 (buildSliceF (TK rfl) rfl (TK rfl) rfl rfl rfl rfl rfl rfl) rfl ?_;refine Sd Fv (Sd Ld ?_);obtain⟨x9,gx9,hE⟩:=bO hE;refine DOps.s0 (appFM (f:=(intE .i64)) (TK rfl) rfl (TK rfl) (TK rfl) ⟨_,rfl⟩ rfl rfl (by decide) rfl rfl rfl (by intro q h; cases h<;>decide) rfl rfl gx9) rfl ?_;refine Sd BU ?_;refine DOps.sLn (storeLFA (TK rfl) rfl rfl rfl rfl rfl) ?_
 refine DOps.nil (by decide +kernel) ?_;exact rt hE
def Z49 (a0:TRef):Option Bool:=(Z51 a0).bind fun x3=>guardO ((decide ((0:Int)<((x3.FWraps.l.length:Nat):Int)))) (x3.FWraps.l[0]?) (0:Int) fun x6=>some ((decide ((0:Int)<((x3.FWraps.l.length:Nat):Int)))&&(decide (x6=(2:Int))))
theorem Z49_walk {a0:TRef}{r:Bool}(hE:Z49 a0=some r) (H:Heap) :ACalls Tryz.prog 153 [.agg (TRef.c a0)] H fun v h'=>v=.a (.d (.bool r))/\h'=H:=by
 unfold Z49 at hE;refine ACalls.oW 17 [.tmp 2] Tryz.call153 Tryz.func153 ?_;refine seqR (S BX (S As (nil ?_)));refine seqR (S Ld ?_);obtain⟨x3,gx3,hE⟩:=bO hE;refine Sc rfl rfl (Z51_walk gx3) ?_;refine Sl ?_;refine Sf ?_;refine nil ?_;refine freezeA 3 _ rfl Keeps.nil ?_;refine seqR (S Fv (S Ld ?_));refine sLen (f:=(intE .i64)) (s:=x3.FWraps) (TK rfl) rfl rfl rfl rfl fun hL5=>?_;refine S BI (S Mv (G0 Fv ?_))
 refine G1 11 rfl Ld ?_;obtain⟨x6,gx6,hE⟩:=gO hE;refine gC rfl rfl (fun hC=>ungdA (k:=12) rfl (idxMn (f:=(intE .i64)) (n:=0) (TK rfl) rfl (TK rfl) rfl rfl rfl (gx6 hC))) rfl ?_;refine G1 13 rfl Ld ?_;refine G1 14 rfl BI ?_;refine S PA (S As (nil ?_));exact rt hE
def Z48 (a0:TRef):Option (TRef×Bool):=(Z49 a0).bind fun x4=>bif (!x4) then(some ((TRef.mk ([]:Bs) (Sl.nil:Sl Int)),false)) else((Z51 a0).bind fun x8=>(Z54 x8).bind fun x9=>some (x9,true))
theorem Z48_walk {a0:TRef}{r:TRef×Bool}(hE:Z48 a0=some r) (H:Heap) :ACalls Tryz.prog 127 [.agg (TRef.c a0)] H fun v h'=>v=.tup [.agg (TRef.c r.1),.d (.bool r.2)]/\h'=H:=by
 unfold Z48 at hE;refine ACalls.oW 11 [.cell 2 49,.tmp 3] Tryz.call127 Tryz.func127 ?_;refine seqR (S BX ?_);refine Sl ?_;refine S As (nil ?_);refine seqK fun K2 hK2=>?_;refine seqR (S Ld ?_);obtain⟨x4,gx4,hE⟩:=bO hE;refine Sc rfl rfl (Z49_walk gx4) ?_;refine S NB (nil ?_);refine cE hE (fun hc5 hE=>?_) (fun hc5 hE=>?_)
 ·refine seqR (S BU ?_);refine Sf ?_;refine S As (nil ?_);exact rt hE
 refine sk hK2 ?_;clear hK2 K2;refine seqR (S Ld ?_);obtain⟨x8,gx8,hE⟩:=bO hE;refine Sc rfl rfl (Z51_walk gx8) ?_;obtain⟨x9,gx9,hE⟩:=bO hE;refine Sc rfl rfl (Z54_walk gx9) ?_;refine Sf ?_;refine S As (nil ?_);exact rt hE
end Go.Proofs

namespace Go.Proofs
open Go Go.Ab
open AOps Cert AWp Keeps KeepsT
variable {lou:Lou}
def Z94_j2  :Option Bool:=some false
def Z94_l5 (a0:TDef) (a1:Bs) :Nat->Nat->Option Bool
 | 0,_=>none
 | n5+1,s5_6=>bif (decide (((s5_6:Nat):Int)<((a0.FMembers.l.length:Nat):Int))) then((a0.FMembers.l[s5_6]?).bind fun x13=>bif ((x13.FName==a1)) then(some true) else((Z94_l5 a0 a1 n5) (s5_6+1))) else(Z94_j2   )
def Z94 (a0:TDef) (a1:Bs):Option Bool:=Z94_l5 a0 a1 (a0.FMembers.l.length+1) 0
theorem Z94_walk {a0:TDef}{a1:Bs}{r:Bool}(hE:Z94 a0 a1=some r) (H:Heap) :ACalls Tryz.prog 69 [.agg (TDef.c a0),.d (.str a1)] H fun v h'=>v=.a (.d (.bool r))/\h'=H:=by
 unfold Z94 at hE;refine ACalls.oW 21 [.tmp 4] Tryz.call69 Tryz.func69 ?_;refine seqR (S BX (S As (nil ?_)));refine seqJH KeepsT.nil (fun(z:Unit)=>[]) (fun z=>H) (fun z=>Z94_j2 =some r) ?_ ?_
 ·intro K2 hK2;refine seqR (S As (nil ?_));refine block ?_;refine loopH (TA 1 (TA 2 KeepsT.nil)) (fun(z:Nat×Nat)=>[(5,.a (.d (.int .i64 ((z.2:Nat):Int))))]) (fun z=>H) (fun z=>z.1) (fun z=>Z94_l5 a0 a1 z.1 z.2=some r) ((a0.FMembers.l.length+1),0) hE Weak.toA ?_;rintro ⟨n5,s5_6⟩ hE K5 hK5;try dsimp only at hE
  cases n5 with
  | zero=>cases hE
  | succ n5 =>
    rw [Z94_l5] at hE;refine seqK fun K7 hK7=>?_;refine seqR (S Mv (S Fv (S Ld ?_)));refine sLen (f:=Z6.c) (s:=a0.FMembers) (TK rfl) rfl rfl rfl rfl fun hL9=>?_;refine S BI (nil ?_);refine cE hE (fun hc10 hE=>?_) (fun hc10 hE=>?_)
    ·try dsimp only at hc10
     have hf10:=of_decide_eq_true hc10;refine sk hK7 ?_;clear hK7 K7;refine seqK fun K11 hK11=>?_;refine block ?_;refine seqR (S Fv (S Ld (S Mv ?_)));obtain⟨x13,gx13,hE⟩:=bO hE;refine S (ix Z6.c s5_6 gx13) (S Fv (S Ld (S Mv (S BS (nil ?_)))));refine cE hE (fun hc14 hE=>?_) (fun hc14 hE=>?_)
     ·refine seqR (S As (nil ?_));exact rt hE
     refine sk hK11 ?_;clear hK11 K11;refine region ?_;refine S Mv ?_;refine SI ?_;refine S As (nil ?_);exact hK5 _ (n5,(s5_6+1)) Weak.toA hE (Nat.lt_succ_self _)
    refine AWp.exit ?_;exact hK2 _ () Weak.toA hE
 rintro _ hE;try dsimp only at hE
 unfold Z94_j2 at hE;refine seqR (S As (nil ?_));exact rt hE
def Z91_j2  :Option Bool:=some true
def Z91_l5 (a0:TDoc) (a1:Int) :Nat->Int->Option Bool
 | 0,_=>none
 | n5+1,s5_6=>bif (decide (s5_6<a1)) then((idxC a0.FDefs.l s5_6).bind fun x12=>(idxC a0.FDefs.l a1).bind fun x13=>bif ((x12.FName==x13.FName)) then(some false) else((addC s5_6 (1:Int)).bind fun x16=>(Z91_l5 a0 a1 n5) x16)) else(Z91_j2   )
def Z91 (a0:TDoc) (a1:Int):Option Bool:=Z91_l5 a0 a1 F0 (0:Int)
theorem Z91_walk {a0:TDoc}{a1:Int}{r:Bool}(hE:Z91 a0 a1=some r) (H:Heap) :ACalls Tryz.prog 167 [.agg (TDoc.c a0),.d (.int .i64 a1)] H fun v h'=>v=.a (.d (.bool r))/\h'=H:=by
 unfold Z91 at hE;refine ACalls.oW 24 [.tmp 4] Tryz.call167 Tryz.func167 ?_;refine seqR (S BX (S As (nil ?_)));refine seqJH KeepsT.nil (fun(z:Unit)=>[]) (fun z=>H) (fun z=>Z91_j2 =some r) ?_ ?_
 ·intro K2 hK2;refine seqR (S As (nil ?_));refine block ?_;refine loopH (TA 1 (TA 2 KeepsT.nil)) (fun(z:Nat×Int)=>[(5,.a (.d (.int .i64 z.2)))]) (fun z=>H) (fun z=>z.1) (fun z=>Z91_l5 a0 a1 z.1 z.2=some r) (F0,(0:Int)) hE Weak.toA ?_;rintro ⟨n5,s5_6⟩ hE K5 hK5;try dsimp only at hE
  cases n5 with
  | zero=>cases hE
  | succ n5 =>
    rw [Z91_l5] at hE;refine seqK fun K7 hK7=>?_;refine seqR (S Mv (S Mv (S BI (nil ?_))));refine cE hE (fun hc9 hE=>?_) (fun hc9 hE=>?_)
    ·refine sk hK7 ?_;clear hK7 K7;refine seqK fun K10 hK10=>?_;refine block ?_;refine AWp.seqD (Sd Fv (Sd Ld (Sd Mv ?_)));obtain⟨x12,gx12,hE⟩:=bO hE;refine DOps.s0 (idxM (f:=TDef.c) (TK rfl) rfl (TK rfl) rfl rfl rfl gx12) rfl ?_;refine Sd Fv (Sd Ld (Sd Fv (Sd Ld (Sd Mv ?_))));obtain⟨x13,gx13,hE⟩:=bO hE;refine DOps.s0 (idxM (f:=TDef.c) (TK rfl) rfl (TK rfl) rfl rfl rfl gx13) rfl ?_;refine Sd Fv (Sd Ld (Sd BS ?_))
     refine DOps.nil (by decide +kernel) ?_;refine cE hE (fun hc14 hE=>?_) (fun hc14 hE=>?_)
     ·refine seqR (S As (nil ?_));exact rt hE
     refine sk hK10 ?_;clear hK10 K10;refine region ?_;refine S Mv ?_;obtain⟨x16,gx16,hE⟩:=bO hE;refine s0 (addM rfl rfl gx16) rfl ?_;refine S As (nil ?_);exact hK5 _ (n5,x16) Weak.toA hE (Nat.lt_succ_self _)
    refine AWp.exit ?_;exact hK2 _ () Weak.toA hE
 rintro _ hE;try dsimp only at hE
 unfold Z91_j2 at hE;refine seqR (S As (nil ?_));exact rt hE
def Z88_j5  (s5_6:(Sl Bs)):Option (Sl Bs):=some s5_6
def Z88_j16 (s8_11:Nat) (k_next_9:(Sl Bs)->Nat->Option (Sl Bs)) (s5_17:(Sl Bs)):Option (Sl Bs):=k_next_9 s5_17 (s8_11+1)
def Z88_l9 (a0:TDoc) (a1:Bs) (x4:(TDef×Bool)) :Nat->(Sl Bs)->Nat->Option (Sl Bs)
 | 0,_,_=>none
 | n9+1,s5_10,s8_11=>bif ((decide (((s8_11:Nat):Int)<((a0.FDefs.l.length:Nat):Int)))&&x4.2) then((a0.FDefs.l[s8_11]?).bind fun x19=>guardO (!(!decide (x19.FKind=(1:Int)))) (Z91 a0 ((s8_11:Nat):Int)) false fun x22=>bif ((!decide (x19.FKind=(1:Int)))||(!x22)) then(Z88_j16 s8_11 ((Z88_l9 a0 a1 x4 n9)) s5_10) else(guardO ((!((decide (x4.1.FKind=(1:Int)))&&((x19.FName==a1)))&&(decide (x4.1.FKind=(2:Int))))) (Z92 x19.FImplements a1) false fun x26=>guardO ((!(((decide (x4.1.FKind=(1:Int)))&&((x19.FName==a1)))||((decide (x4.1.FKind=(2:Int)))&&x26))&&(decide (x4.1.FKind=(3:Int))))) (Z94 x4.1 x19.FName) false fun x28=>bif ((((decide (x4.1.FKind=(1:Int)))&&((x19.FName==a1)))||((decide (x4.1.FKind=(2:Int)))&&x26))||((decide (x4.1.FKind=(3:Int)))&&x28)) then((appC 16 s5_10 (⟨false,[x19.FName]⟩:Sl Bs)).bind fun x31=>Z88_j16 s8_11 ((Z88_l9 a0 a1 x4 n9)) x31) else(Z88_j16 s8_11 ((Z88_l9 a0 a1 x4 n9)) s5_10))) else(Z88_j5   s5_10)
def Z88 (a0:TDoc) (a1:Bs):Option (Sl Bs):=(Z69 a0 a1).bind fun x4=>Z88_l9 a0 a1 x4 (a0.FDefs.l.length+1) (Sl.nil:Sl Bs) 0
theorem Z88_walk {a0:TDoc}{a1:Bs}{r:Sl Bs}(hE:Z88 a0 a1=some r) (H:Heap) :ACalls Tryz.prog 154 [.agg (TDoc.c a0),.d (.str a1)] H fun v h'=>v=.a (.d (Sl.d 1 strE none r))/\h'=H:=by
 unfold Z88 at hE;refine ACalls.oW 81 [.tmp 4] Tryz.call154 Tryz.func154 ?_;refine AWp.tok 1 fun tk1 htk1=>?_;refine seqR (S BX ?_);refine s0 (assignNil (k':=1) rfl) rfl ?_;refine nil ?_;refine seqR (S As (nil ?_));refine AWp.nilTok 5 1 tk1 rfl hpG ?_;refine seqR (S Ld (S Mv ?_));obtain⟨x4,gx4,hE⟩:=bO hE;refine Sc rfl rfl (Z69_walk gx4) ?_;refine S Mv (S EX (S EX ?_));refine Sl ?_;refine Sf ?_;refine S As (nil ?_)
 refine freezeA 6 _ rfl (KA 1 (KA 2 (KA 5 (KA 7 Keeps.nil)))) ?_;refine seqJH KeepsT.nil (fun(z:(Sl Bs))=>[(5,.a (.d (Sl.d 1 strE (some tk1) z)))]) (fun z=>(H.set tk1 (some (.tok 1 z.l.length)))) (fun z=>Z88_j5 z=some r) ?_ ?_
 ·intro K5 hK5;refine seqR (S As (nil ?_));refine block ?_;refine loopH (TA 1 (TA 2 (TA 6 (TA 7 KeepsT.nil)))) (fun(z:Nat×(Sl Bs)×Nat)=>[(5,.a (.d (Sl.d 1 strE (some tk1) z.2.1))),(8,.a (.d (.int .i64 ((z.2.2:Nat):Int))))]) (fun z=>(H.set tk1 (some (.tok 1 z.2.1.l.length)))) (fun z=>z.1) (fun z=>Z88_l9 a0 a1 x4 z.1 z.2.1 z.2.2=some r) ((a0.FDefs.l.length+1),(Sl.nil:Sl Bs),0) hE Weak.toA ?_;rintro ⟨n9,s5_10,s8_11⟩ hE K9 hK9
  try dsimp only at hE
  cases n9 with
  | zero=>cases hE
  | succ n9 =>
    rw [Z88_l9] at hE;refine seqK fun K12 hK12=>?_;refine seqR (S Mv (S Fv (S Ld ?_)));refine sLen (f:=TDef.c) (s:=a0.FDefs) (TK rfl) rfl rfl rfl rfl fun hL14=>?_;refine S BI (S Mv (G0 Mv (S PA (nil ?_))));refine cE hE (fun hc15 hE=>?_) (fun hc15 hE=>?_)
    ·try dsimp only at hc15
     have hf15:=of_decide_eq_true (and_left hc15);refine sk hK12 ?_;clear hK12 K12;refine seqJH (TA 1 (TA 2 (TA 6 (TA 7 (TA 8 KeepsT.nil))))) (fun(z:(Sl Bs))=>[(5,.a (.d (Sl.d 1 strE (some tk1) z)))]) (fun z=>(H.set tk1 (some (.tok 1 z.l.length)))) (fun z=>Z88_j16 s8_11 ((Z88_l9 a0 a1 x4 n9)) z=some r) ?_ ?_
     ·intro K16 hK16;refine block ?_;refine seqR (S Fv (S Ld (S Mv ?_)));obtain⟨x19,gx19,hE⟩:=bO hE;refine S (ix TDef.c s8_11 gx19) (S Ld ?_);refine Sl ?_;refine Sf ?_;refine nil ?_;refine freezeA 9 _ rfl (KA 1 (KA 2 (KA 5 (KA 6 (KA 7 (KA 8 Keeps.nil)))))) ?_;refine seqK fun K20 hK20=>?_;refine seqR (S Fv (S Ld (S BI (S Mv (G0 Ld (G0 Mv ?_))))));obtain⟨x22,gx22,hE⟩:=gO hE;refine Gc2 36 37 rfl rfl rfl rfl rfl rfl (fun hC=>Z91_walk (gx22 hC)) ?_
      refine G1 38 rfl NB ?_;refine S PO (nil ?_);refine cE hE (fun hc23 hE=>?_) (fun hc23 hE=>?_)
      ·refine AWp.exit ?_;exact hK16 _ s5_10 Weak.toA hE
      refine sk hK20 ?_;clear hK20 K20;refine seqR (S Fv (S Ld (S BI (S Mv (G0 Fv ?_)))));refine G1 45 rfl Ld ?_;refine G0 Mv ?_;refine G2 46 47 rfl rfl BS ?_;refine S PA (S As (nil ?_));refine seqR (S Mv (S Mv (G0 Fv ?_)));refine G1 52 rfl Ld ?_;refine G1 53 rfl BI ?_;refine G1 54 rfl Mv ?_;refine G0 Fv ?_;refine G1 56 rfl Ld ?_;refine G0 Mv ?_;obtain⟨x26,gx26,hE⟩:=gO hE;refine Gc2 57 58 rfl rfl rfl rfl rfl rfl (fun hC=>Z92_walk (gx26 hC)) ?_
      refine gC rfl rfl (fun hC=>ungdA (k:=55) rfl (pickAndA rfl rfl rfl)) rfl ?_;refine S PO (S As (nil ?_));refine seqR (S Mv (S Mv (G0 Fv ?_)));refine G1 64 rfl Ld ?_;refine G1 65 rfl BI ?_;refine G1 66 rfl Mv ?_;refine G0 Ld (G0 Fv ?_);refine G1 69 rfl Ld ?_;obtain⟨x28,gx28,hE⟩:=gO hE;refine Gc2 68 70 rfl rfl rfl rfl rfl rfl (fun hC=>Z94_walk (gx28 hC)) ?_;refine gC rfl rfl (fun hC=>ungdA (k:=67) rfl (pickAndA rfl rfl rfl)) rfl ?_
      refine S PO (S As (nil ?_));refine seqR (S Mv (nil ?_));refine cE hE (fun hc30 hE=>?_) (fun hc30 hE=>?_)
      ·refine region ?_;refine S Mv (S Fv (S Ld (S BV ?_)));obtain⟨x31,gx31,hE⟩:=bO hE;refine SH (am strE (TK rfl) rfl (TK rfl) (TK rfl) gx31) ?_;refine hq (H.set tk1 (some (.tok 1 x31.l.length))) ?_;refine S As (nil ?_);exact hK16 _ x31 Weak.toA hE
      refine AWp.skip ?_;exact hK16 _ s5_10 Weak.toA hE
     rintro s5_17 hE;try dsimp only at hE
     unfold Z88_j16 at hE;refine region ?_;refine S Mv ?_;refine SI ?_;refine S As (nil ?_);exact hK9 _ (n9,s5_17,(s8_11+1)) Weak.toA hE (Nat.lt_succ_self _)
    refine AWp.exit ?_;exact hK5 _ s5_10 Weak.toA hE
 rintro s5_6 hE;try dsimp only at hE
 unfold Z88_j5 at hE;refine seqR (S Mv (S As (nil ?_)));refine AWp.dropTok 4 rfl ?_;refine AWp.ret ?_;repeat (first|refine xBlock_ret ?_|refine xThen_ret ?_)
 obtain rfl:=Option.some.inj hE;refine retQ.retF H rfl ⟨rfl,rfl⟩ ?_
 first|exact Heap.sub_set htk1|(simp only [Heap.set_set]; exact Heap.sub_set htk1)
def Z87 (a0:TDoc) (a1:Bs) (a2:Bs):Option Bool:=(Z88 a0 a2).bind fun x3=>(Z92 x3 a1).bind fun x4=>some x4
theorem Z87_walk {a0:TDoc}{a1 a2:Bs}{r:Bool}(hE:Z87 a0 a1 a2=some r) (H:Heap) :ACalls Tryz.prog 128 [.agg (TDoc.c a0),.d (.str a1),.d (.str a2)] H fun v h'=>v=.a (.d (.bool r))/\h'=H:=by
 unfold Z87 at hE;refine ACalls.oW 12 [.tmp 6] Tryz.call128 Tryz.func128 ?_;refine seqR (S BX (S As (nil ?_)));refine seqR (S Ld (S Mv ?_));obtain⟨x3,gx3,hE⟩:=bO hE;refine Sc rfl rfl (Z88_walk gx3) ?_;refine S Mv ?_;obtain⟨x4,gx4,hE⟩:=bO hE;refine Sc rfl rfl (Z92_walk gx4) ?_;refine S As (nil ?_);exact rt hE
def Z89_n:Nat->TDoc->TRef->TRef->Option Bool
 | 0,_,_,_=>none
 | n+1,a0,a1,a2=>(Z50 a2).bind fun x4=>bif x4 then((Z50 a1).bind fun x7=>guardO (x7) (Z51 a1) TRef.zero fun x8=>guardO (x7) (Z51 a2) TRef.zero fun x9=>guardO (x7) ((Z89_n n) a0 x8 x9) false fun x10=>some (x7&&x10)) else((Z50 a1).bind fun x13=>bif x13 then((Z51 a1).bind fun x16=>((Z89_n n) a0 x16 a2).bind fun x17=>some x17) else((Z48 a1).bind fun x19=>(Z48 a2).bind fun x21=>bif (x19.2&&x21.2) then(((Z89_n n) a0 x19.1 x21.1).bind fun x26=>some x26) else(guardO ((((!x19.2)&&(!x21.2))&&!((a1.FName==a2.FName)))) (Z87 a0 a1.FName a2.FName) false fun x28=>some (((!x19.2)&&(!x21.2))&&(((a1.FName==a2.FName))||x28)))))
theorem Z89_step (n:Nat) (ih_97:∀{a0:TDoc}{a1 a2:TRef}{r:Bool},Z89_n n a0 a1 a2=some r->∀(H:Heap),ACalls Tryz.prog 97 [.agg (TDoc.c a0),.agg (TRef.c a1),.agg (TRef.c a2)] H fun v h'=>v=.a (.d (.bool r))/\h'=H):∀{a0:TDoc}{a1 a2:TRef}{r:Bool},Z89_n (n+1) a0 a1 a2=some r->∀(H:Heap),ACalls Tryz.prog 97 [.agg (TDoc.c a0),.agg (TRef.c a1),.agg (TRef.c a2)] H fun v h'=>v=.a (.d (.bool r))/\h'=H:=by
 intro a0 a1 a2   r hE H ;rw [Z89_n] at hE;refine ACalls.oW 69 [.tmp 6] Tryz.call97 Tryz.func97 ?_;refine seqR (S BX (S BX (S BX (S As (nil ?_)))));refine seqK fun K2 hK2=>?_;refine seqR (S Ld ?_);obtain⟨x4,gx4,hE⟩:=bO hE;refine Sc rfl rfl (Z50_walk gx4) ?_;refine nil ?_;refine cE hE (fun hc5 hE=>?_) (fun hc5 hE=>?_)
 ·refine AWp.seqD (Sd Ld ?_);obtain⟨x7,gx7,hE⟩:=bO hE;refine Scd rfl rfl (Z50_walk gx7) ?_;refine Sd Mv (G0d Ld (G0d Ld ?_));obtain⟨x8,gx8,hE⟩:=gO hE;refine Gc1d 17 rfl rfl rfl rfl rfl (fun hC=>Z51_walk (gx8 hC)) ?_;refine G0d Ld ?_;obtain⟨x9,gx9,hE⟩:=gO hE;refine Gc1d 19 rfl rfl rfl rfl rfl (fun hC=>Z51_walk (gx9 hC)) ?_;obtain⟨x10,gx10,hE⟩:=gO hE;refine DOps.gC rfl rfl (fun hC=>ungdA (k:=16) rfl (ungdA (k:=18) rfl (ungdA (k:=20) rfl (callP rfl rfl (fun H=>ih_97 (gx10 hC) H))))) rfl ?_
  refine Sd PA (Sd As ?_);refine DOps.nil (by decide +kernel) ?_;exact rt hE
 refine sk hK2 ?_;clear hK2 K2;refine seqK fun K11 hK11=>?_;refine seqR (S Ld ?_);obtain⟨x13,gx13,hE⟩:=bO hE;refine Sc rfl rfl (Z50_walk gx13) ?_;refine nil ?_;refine cE hE (fun hc14 hE=>?_) (fun hc14 hE=>?_)
 ·refine AWp.seqD (Sd Ld (Sd Ld ?_));obtain⟨x16,gx16,hE⟩:=bO hE;refine Scd rfl rfl (Z51_walk gx16) ?_;refine Sd Ld ?_;obtain⟨x17,gx17,hE⟩:=bO hE;refine Scd rfl rfl (ih_97 gx17) ?_;refine Sd As ?_;refine DOps.nil (by decide +kernel) ?_;exact rt hE
 refine sk hK11 ?_;clear hK11 K11;refine seqR (S Ld ?_);obtain⟨x19,gx19,hE⟩:=bO hE;refine Sc rfl rfl (Z48_walk gx19) ?_;refine S Mv (S EX (S EX ?_));refine Sl ?_;refine Sf ?_;refine S As (nil ?_);refine freezeA 7 _ rfl (KA 3 (KA 4 (KA 5 (KA 8 Keeps.nil)))) ?_;refine seqR (S Ld ?_);obtain⟨x21,gx21,hE⟩:=bO hE;refine Sc rfl rfl (Z48_walk gx21) ?_;refine S Mv (S EX (S EX ?_));refine Sl ?_;refine Sf ?_
 refine S As (nil ?_);refine freezeA 9 _ rfl (KA 3 (KA 4 (KA 5 (KA 7 (KA 8 (KA 10 Keeps.nil)))))) ?_;refine seqK fun K22 hK22=>?_;refine seqR (S Mv (S Mv (G0 Mv (S PA (nil ?_)))));refine cE hE (fun hc24 hE=>?_) (fun hc24 hE=>?_)
 ·refine seqR (S Ld (S Ld (S Ld ?_)));obtain⟨x26,gx26,hE⟩:=bO hE;refine Sc rfl rfl (ih_97 gx26) ?_;refine S As (nil ?_);exact rt hE
 refine sk hK22 ?_;clear hK22 K22;refine seqR (S Mv (S NB (S Mv (G0 Mv ?_))));refine G1 51 rfl NB ?_;refine S PA (S Mv (G0 Fv ?_));refine G1 55 rfl Ld ?_;refine G0 Fv ?_;refine G1 57 rfl Ld ?_;refine G2 56 58 rfl rfl BS ?_;refine G1 59 rfl Mv ?_;refine G0 Ld (G0 Fv ?_);refine G1 62 rfl Ld ?_;refine G0 Fv ?_;refine G1 64 rfl Ld ?_;obtain⟨x28,gx28,hE⟩:=gO hE;refine gC rfl rfl (fun hC=>ungdA (k:=61) rfl (ungdA (k:=63) rfl (ungdA (k:=65) rfl (callP rfl rfl (fun H=>Z87_walk (gx28 hC) H))))) rfl ?_
 refine gC rfl rfl (fun hC=>ungdA (k:=60) rfl (pickOrA rfl rfl rfl)) rfl ?_;refine S PA (S As (nil ?_));exact rt hE
theorem Z89_all:∀(n:Nat),(∀{a0:TDoc}{a1 a2:TRef}{r:Bool},Z89_n n a0 a1 a2=some r->∀(H:Heap),ACalls Tryz.prog 97 [.agg (TDoc.c a0),.agg (TRef.c a1),.agg (TRef.c a2)] H fun v h'=>v=.a (.d (.bool r))/\h'=H)
 | 0=>fun hE=>by first|cases hE|(rw [Z89_n] at hE; cases hE)
 | n+1=>Z89_step n (Z89_all n)
def Z89 (a0:TDoc) (a1:TRef) (a2:TRef):Option Bool:=Z89_n F0 a0 a1 a2
theorem Z89_walk {a0:TDoc}{a1 a2:TRef}{r:Bool}(hE:Z89 a0 a1 a2=some r) (H:Heap) :ACalls Tryz.prog 97 [.agg (TDoc.c a0),.agg (TRef.c a1),.agg (TRef.c a2)] H fun v h'=>v=.a (.d (.bool r))/\h'=H:=(Z89_all F0) hE H 
end Go.Proofs

namespace Go.Proofs
open Go Go.Ab
open AOps Cert AWp Keeps KeepsT
variable {lou:Lou}
def Z90_j16  (s10_17:(Sl Z3)):Option (Sl Z3):=some s10_17
def Z90_j27 (s14_22:Nat) (k_next_20:(Sl Z3)->Nat->Option (Sl Z3)) (s10_28:(Sl Z3)):Option (Sl Z3):=k_next_20 s10_28 (s14_22+1)
def Z90_l20 (a2:Z4) (x4:Bs) (x6:(Z4×Bool)) :Nat->(Sl Z3)->Nat->Option (Sl Z3)
 | 0,_,_=>none
 | n20+1,s10_21,s14_22=>bif (decide (((s14_22:Nat):Int)<((x6.1.FArgs.l.length:Nat):Int))) then((x6.1.FArgs.l[s14_22]?).bind fun x30=>(Z70 a2.FArgs x30.FName).bind fun x31=>guardO ((!x31.2)) (x6.1.FArgs.l[s14_22]?) Z5.zero fun x33=>guardO ((!x31.2)) (Z50 x33.FType) false fun x34=>guardO (((!x31.2)&&x34)) (x6.1.FArgs.l[s14_22]?) Z5.zero fun x35=>bif (((!x31.2)&&x34)&&(!x35.FHas)) then((catC x4 ([40]:Bs)).bind fun x37=>(x6.1.FArgs.l[s14_22]?).bind fun x38=>(catC x37 x38.FName).bind fun x39=>(catC x39 ([41]:Bs)).bind fun x40=>(appC 24 s10_21 (⟨false,[(Z3.mk (22:Int) x40)]⟩:Sl Z3)).bind fun x41=>Z90_j27 s14_22 ((Z90_l20 a2 x4 x6 n20)) x41) else(Z90_j27 s14_22 ((Z90_l20 a2 x4 x6 n20)) s10_21)) else(Z90_j16   s10_21)
def Z90_j14 (a2:Z4) (x4:Bs) (x6:(Z4×Bool))  (s10_15:(Sl Z3)):Option (Sl Z3):=Z90_l20 a2 x4 x6 (x6.1.FArgs.l.length+1) s10_15 0
def Z90_j50 (s11_45:Nat) (k_next_43:(Sl Z3)->Nat->Option (Sl Z3)) (s10_51:(Sl Z3)):Option (Sl Z3):=k_next_43 s10_51 (s11_45+1)
def Z90_l43 (a2:Z4) (x4:Bs) (x6:(Z4×Bool)) :Nat->(Sl Z3)->Nat->Option (Sl Z3)
 | 0,_,_=>none
 | n43+1,s10_44,s11_45=>bif (decide (((s11_45:Nat):Int)<((a2.FArgs.l.length:Nat):Int))) then((a2.FArgs.l[s11_45]?).bind fun x53=>(Z70 x6.1.FArgs x53.FName).bind fun x54=>guardO (!(!x54.2)) (a2.FArgs.l[s11_45]?) Z5.zero fun x56=>guardO (!(!x54.2)) (Z53 x54.1.FType x56.FType) false fun x57=>bif ((!x54.2)||(!x57)) then((catC x4 ([40]:Bs)).bind fun x59=>(a2.FArgs.l[s11_45]?).bind fun x60=>(catC x59 x60.FName).bind fun x61=>(catC x61 ([41]:Bs)).bind fun x62=>(appC 24 s10_44 (⟨false,[(Z3.mk (22:Int) x62)]⟩:Sl Z3)).bind fun x63=>Z90_j50 s11_45 ((Z90_l43 a2 x4 x6 n43)) x63) else(Z90_j50 s11_45 ((Z90_l43 a2 x4 x6 n43)) s10_44)) else(Z90_j14 a2 x4 x6  s10_44)
def Z90_j12 (a2:Z4) (x4:Bs) (x6:(Z4×Bool))  (s10_13:(Sl Z3)):Option (Sl Z3):=Z90_l43 a2 x4 x6 (a2.FArgs.l.length+1) s10_13 0
def Z90 (a0:TDoc) (a1:TDef) (a2:Z4):Option (Sl Z3):=(catC a1.FName ([46]:Bs)).bind fun x3=>(catC x3 a2.FName).bind fun x4=>(Z68 a1 a2.FName).bind fun x6=>bif (!x6.2) then(some (⟨false,[(Z3.mk (20:Int) x4)]⟩:Sl Z3)) else((Z89 a0 x6.1.FType a2.FType).bind fun x65=>bif (!x65) then((appC 24 (Sl.nil:Sl Z3) (⟨false,[(Z3.mk (10:Int) x4)]⟩:Sl Z3)).bind fun x67=>Z90_j12 a2 x4 x6  x67) else(Z90_j12 a2 x4 x6  (Sl.nil:Sl Z3)))
theorem Z90_walk {a0:TDoc}{a1:TDef}{a2:Z4}{r:Sl Z3}(hE:Z90 a0 a1 a2=some r) (H:Heap) :ACalls Tryz.prog 68 [.agg (TDoc.c a0),.agg (TDef.c a1),.agg (Z4.c a2)] H fun v h'=>v=.a (.d (Sl.d 2 Z3.c none r))/\h'=H:=by
 unfold Z90 at hE;refine ACalls.oW 148 [.tmp 6] Tryz.call68 Tryz.func68 ?_;refine AWp.tok 2 fun tk1 htk1=>?_;refine seqR (S BX (S BX (S BX ?_)));refine s0 (assignNil (k':=2) rfl) rfl ?_;refine nil ?_;refine seqR (S Fv (S Ld ?_));obtain⟨x3,gx3,hE⟩:=bO hE;refine s0 (catM rfl rfl gx3) rfl ?_;refine S Fv (S Ld ?_);obtain⟨x4,gx4,hE⟩:=bO hE;refine s0 (catM rfl rfl gx4) rfl ?_;refine S As (nil ?_);refine seqR (S Ld (S Fv (S Ld ?_)))
 obtain⟨x6,gx6,hE⟩:=bO hE;refine Sc rfl rfl (Z68_walk gx6) ?_;refine S Mv (S EX (S EX ?_));refine Sl ?_;refine Sf ?_;refine S As (nil ?_);refine freezeA 8 _ rfl (KA 3 (KA 5 (KA 7 (KA 9 Keeps.nil)))) ?_;refine seqK fun K7 hK7=>?_;refine seqR (S Mv (S NB (nil ?_)));refine cE hE (fun hc9 hE=>?_) (fun hc9 hE=>?_)
 ·refine seqR (S Mv (S BU (S BV (S As (nil ?_)))));refine AWp.ret ?_;repeat (first|refine xBlock_ret ?_|refine xThen_ret ?_)
  obtain rfl:=Option.some.inj hE;refine retQ.retF H rfl ⟨rfl,rfl⟩ ?_
  first|exact Heap.sub_set htk1|(simp only [Heap.set_set]; exact Heap.sub_set htk1)
 refine sk hK7 ?_;clear hK7 K7;refine seqR (S As (nil ?_));refine AWp.nilTok 10 2 tk1 rfl hpG ?_;refine seqJH (TA 5 (TA 7 (TA 8 KeepsT.nil))) (fun(z:(Sl Z3))=>[(10,.a (.d (Sl.d 2 Z3.c (some tk1) z)))]) (fun z=>(H.set tk1 (some (.tok 2 z.l.length)))) (fun z=>Z90_j12 a2 x4 x6 z=some r) ?_ ?_
 ·intro K12 hK12;refine seqR (S Ld (S Fv (S Ld (S Fv (S Ld ?_)))));obtain⟨x65,gx65,hE⟩:=bO hE;refine Sc rfl rfl (Z89_walk gx65) ?_;refine S NB (nil ?_);refine cE hE (fun hc66 hE=>?_) (fun hc66 hE=>?_)
  ·refine region ?_;refine S Mv (S Mv (S BU (S BV ?_)));obtain⟨x67,gx67,hE⟩:=bO hE;refine SH (am Z3.c (TK rfl) rfl (TK rfl) (TK rfl) gx67) ?_;refine hq (H.set tk1 (some (.tok 2 x67.l.length))) ?_;refine S As (nil ?_);exact hK12 _ x67 Weak.toA hE
  refine AWp.skip ?_;exact hK12 _ (Sl.nil:Sl Z3) Weak.toA hE
 rintro s10_13 hE;try dsimp only at hE
 unfold Z90_j12 at hE;refine seqJH (TA 5 (TA 7 (TA 8 KeepsT.nil))) (fun(z:(Sl Z3))=>[(10,.a (.d (Sl.d 2 Z3.c (some tk1) z)))]) (fun z=>(H.set tk1 (some (.tok 2 z.l.length)))) (fun z=>Z90_j14 a2 x4 x6 z=some r) ?_ ?_
 ·intro K14 hK14;refine seqR (S As (nil ?_));refine block ?_;refine loopH (TA 5 (TA 7 (TA 8 KeepsT.nil))) (fun(z:Nat×(Sl Z3)×Nat)=>[(10,.a (.d (Sl.d 2 Z3.c (some tk1) z.2.1))),(11,.a (.d (.int .i64 ((z.2.2:Nat):Int))))]) (fun z=>(H.set tk1 (some (.tok 2 z.2.1.l.length)))) (fun z=>z.1) (fun z=>Z90_l43 a2 x4 x6 z.1 z.2.1 z.2.2=some r) ((a2.FArgs.l.length+1),s10_13,0) hE Weak.toA ?_;rintro ⟨n43,s10_44,s11_45⟩ hE K43 hK43
  try dsimp only at hE
  cases n43 with
  | zero=>cases hE
  | succ n43 =>
    rw [Z90_l43] at hE;refine seqK fun K46 hK46=>?_;refine seqR (S Mv (S Fv (S Ld ?_)));refine sLen (f:=Z5.c) (s:=a2.FArgs) (TK rfl) rfl rfl rfl rfl fun hL48=>?_;refine S BI (nil ?_);refine cE hE (fun hc49 hE=>?_) (fun hc49 hE=>?_)
    ·try dsimp only at hc49
     have hf49:=of_decide_eq_true hc49;refine sk hK46 ?_;clear hK46 K46;refine seqJH (TA 5 (TA 7 (TA 8 (TA 11 KeepsT.nil)))) (fun(z:(Sl Z3))=>[(10,.a (.d (Sl.d 2 Z3.c (some tk1) z)))]) (fun z=>(H.set tk1 (some (.tok 2 z.l.length)))) (fun z=>Z90_j50 s11_45 ((Z90_l43 a2 x4 x6 n43)) z=some r) ?_ ?_
     ·intro K50 hK50;refine block ?_;refine AWp.seqD (Sd Fv (Sd Ld (Sd Fv (Sd Ld (Sd Mv ?_)))));obtain⟨x53,gx53,hE⟩:=bO hE;refine Sd (ix Z5.c s11_45 gx53) (Sd Fv (Sd Ld ?_));obtain⟨x54,gx54,hE⟩:=bO hE;refine Scd rfl rfl (Z70_walk gx54) ?_;refine Sd Mv (Sd EX (Sd EX ?_));refine DOps.sB (TK rfl) rfl rfl ?_ (by repeat (first|exact Snoc.nil|apply Snoc.cons));refine DOps.sLn (storeLFA (TK rfl) rfl rfl rfl rfl rfl) ?_
      refine Sd As ?_;refine DOps.nil (by decide +kernel) ?_;refine freezeA 12 _ rfl (KA 5 (KA 7 (KA 8 (KA 10 (KA 11 (KA 13 Keeps.nil)))))) ?_;refine AWp.seqD (Sd Mv (Sd NB (Sd Mv (G0d Fv ?_))));refine G1d 69 rfl Ld ?_;refine G0d Fv ?_;refine G1d 71 rfl Ld ?_;refine G0d Mv ?_;obtain⟨x56,gx56,hE⟩:=gO hE;refine DOps.gC rfl rfl (fun hC=>ungdA (k:=72) rfl (ungdA (k:=73) rfl (idxMn (f:=Z5.c) (n:=s11_45) (TK rfl) rfl (TK rfl) rfl rfl rfl (gx56 hC)))) rfl ?_
      refine G1d 74 rfl Fv ?_;refine G1d 75 rfl Ld ?_;obtain⟨x57,gx57,hE⟩:=gO hE;refine Gc2d 70 76 rfl rfl rfl rfl rfl rfl (fun hC=>Z53_walk (gx57 hC)) ?_;refine G1d 77 rfl NB ?_;refine Sd PO ?_;refine DOps.nil (by decide +kernel) ?_;refine cE hE (fun hc58 hE=>?_) (fun hc58 hE=>?_)
      ·refine region ?_;refine S Mv (S Mv ?_);obtain⟨x59,gx59,hE⟩:=bO hE;refine s0 (catM rfl rfl gx59) rfl ?_;refine S Fv (S Ld (S Mv ?_));obtain⟨x60,gx60,hE⟩:=bO hE;refine S (ix Z5.c s11_45 gx60) (S Fv (S Ld ?_));obtain⟨x61,gx61,hE⟩:=bO hE;refine s0 (catM rfl rfl gx61) rfl ?_;obtain⟨x62,gx62,hE⟩:=bO hE;refine s0 (catM rfl rfl gx62) rfl ?_;refine S BU (S BV ?_);obtain⟨x63,gx63,hE⟩:=bO hE;refine SH (am Z3.c (TK rfl) rfl (TK rfl) (TK rfl) gx63) ?_
       refine hq (H.set tk1 (some (.tok 2 x63.l.length))) ?_;refine S As (nil ?_);exact hK50 _ x63 Weak.toA hE
      refine AWp.skip ?_;exact hK50 _ s10_44 Weak.toA hE
     rintro s10_51 hE;try dsimp only at hE
     unfold Z90_j50 at hE;refine region ?_;refine S Mv ?_;refine SI ?_;refine S As (nil ?_);exact hK43 _ (n43,s10_51,(s11_45+1)) Weak.toA hE (Nat.lt_succ_self _)
    refine AWp.exit ?_;exact hK14 _ s10_44 Weak.toA hE
 rintro s10_15 hE;try dsimp only at hE
 unfold Z90_j14 at hE;refine seqJH KeepsT.nil (fun(z:(Sl Z3))=>[(10,.a (.d (Sl.d 2 Z3.c (some tk1) z)))]) (fun z=>(H.set tk1 (some (.tok 2 z.l.length)))) (fun z=>Z90_j16 z=some r) ?_ ?_
 ·intro K16 hK16;refine seqR (S As (nil ?_));refine block ?_;refine loopH (TA 5 (TA 7 (TA 8 KeepsT.nil))) (fun(z:Nat×(Sl Z3)×Nat)=>[(10,.a (.d (Sl.d 2 Z3.c (some tk1) z.2.1))),(14,.a (.d (.int .i64 ((z.2.2:Nat):Int))))]) (fun z=>(H.set tk1 (some (.tok 2 z.2.1.l.length)))) (fun z=>z.1) (fun z=>Z90_l20 a2 x4 x6 z.1 z.2.1 z.2.2=some r) ((x6.1.FArgs.l.length+1),s10_15,0) hE Weak.toA ?_;rintro ⟨n20,s10_21,s14_22⟩ hE K20 hK20
  try dsimp only at hE
  cases n20 with
  | zero=>cases hE
  | succ n20 =>
    rw [Z90_l20] at hE;refine seqK fun K23 hK23=>?_;refine seqR (S Mv (S Fv (S Ld ?_)));refine sLen (f:=Z5.c) (s:=x6.1.FArgs) (TK rfl) rfl rfl rfl rfl fun hL25=>?_;refine S BI (nil ?_);refine cE hE (fun hc26 hE=>?_) (fun hc26 hE=>?_)
    ·try dsimp only at hc26
     have hf26:=of_decide_eq_true hc26;refine sk hK23 ?_;clear hK23 K23;refine seqJH (TA 5 (TA 7 (TA 8 (TA 14 KeepsT.nil)))) (fun(z:(Sl Z3))=>[(10,.a (.d (Sl.d 2 Z3.c (some tk1) z)))]) (fun z=>(H.set tk1 (some (.tok 2 z.l.length)))) (fun z=>Z90_j27 s14_22 ((Z90_l20 a2 x4 x6 n20)) z=some r) ?_ ?_
     ·intro K27 hK27;refine block ?_;refine AWp.seqD (Sd Fv (Sd Ld (Sd Fv (Sd Ld (Sd Mv ?_)))));obtain⟨x30,gx30,hE⟩:=bO hE;refine Sd (ix Z5.c s14_22 gx30) (Sd Fv (Sd Ld ?_));obtain⟨x31,gx31,hE⟩:=bO hE;refine Scd rfl rfl (Z70_walk gx31) ?_;refine Sd Mv (Sd EX (Sd EX ?_));refine DOps.sB (TK rfl) rfl rfl ?_ (by repeat (first|exact Snoc.nil|apply Snoc.cons));refine DOps.sLn (storeLFA (TK rfl) rfl rfl rfl rfl rfl) ?_
      refine Sd As ?_;refine DOps.nil (by decide +kernel) ?_;refine freezeA 15 _ rfl (KA 5 (KA 7 (KA 8 (KA 10 (KA 14 (KA 16 Keeps.nil)))))) ?_;refine seqR (S Mv (S NB (S Mv (G0 Fv ?_))));refine G1 116 rfl Ld ?_;refine G0 Mv ?_;obtain⟨x33,gx33,hE⟩:=gO hE;refine gC rfl rfl (fun hC=>ungdA (k:=117) rfl (ungdA (k:=118) rfl (idxMn (f:=Z5.c) (n:=s14_22) (TK rfl) rfl (TK rfl) rfl rfl rfl (gx33 hC)))) rfl ?_
      refine G1 119 rfl Fv ?_;refine G1 120 rfl Ld ?_;obtain⟨x34,gx34,hE⟩:=gO hE;refine Gc1 121 rfl rfl rfl rfl rfl (fun hC=>Z50_walk (gx34 hC)) ?_;refine S PA (S Mv (G0 Fv ?_));refine G1 125 rfl Ld ?_;refine G0 Mv ?_;obtain⟨x35,gx35,hE⟩:=gO hE;refine gC rfl rfl (fun hC=>ungdA (k:=126) rfl (ungdA (k:=127) rfl (idxMn (f:=Z5.c) (n:=s14_22) (TK rfl) rfl (TK rfl) rfl rfl rfl (gx35 hC)))) rfl ?_;refine G1 128 rfl Fv ?_
      refine G1 129 rfl Ld ?_;refine G1 130 rfl NB ?_;refine S PA (nil ?_);refine cE hE (fun hc36 hE=>?_) (fun hc36 hE=>?_)
      ·refine region ?_;refine S Mv (S Mv ?_);obtain⟨x37,gx37,hE⟩:=bO hE;refine s0 (catM rfl rfl gx37) rfl ?_;refine S Fv (S Ld (S Mv ?_));obtain⟨x38,gx38,hE⟩:=bO hE;refine S (ix Z5.c s14_22 gx38) (S Fv (S Ld ?_));obtain⟨x39,gx39,hE⟩:=bO hE;refine s0 (catM rfl rfl gx39) rfl ?_;obtain⟨x40,gx40,hE⟩:=bO hE;refine s0 (catM rfl rfl gx40) rfl ?_;refine S BU (S BV ?_);obtain⟨x41,gx41,hE⟩:=bO hE;refine SH (am Z3.c (TK rfl) rfl (TK rfl) (TK rfl) gx41) ?_
       refine hq (H.set tk1 (some (.tok 2 x41.l.length))) ?_;refine S As (nil ?_);exact hK27 _ x41 Weak.toA hE
      refine AWp.skip ?_;exact hK27 _ s10_21 Weak.toA hE
     rintro s10_28 hE;try dsimp only at hE
     unfold Z90_j27 at hE;refine region ?_;refine S Mv ?_;refine SI ?_;refine S As (nil ?_);exact hK20 _ (n20,s10_28,(s14_22+1)) Weak.toA hE (Nat.lt_succ_self _)
    refine AWp.exit ?_;exact hK16 _ s10_21 Weak.toA hE
 rintro s10_17 hE;try dsimp only at hE
 unfold Z90_j16 at hE;refine seqR (S Mv (S As (nil ?_)));refine AWp.dropTok 6 rfl ?_;refine AWp.ret ?_;repeat (first|refine xBlock_ret ?_|refine xThen_ret ?_)
 obtain rfl:=Option.some.inj hE;refine retQ.retF H rfl ⟨rfl,rfl⟩ ?_
 first|exact Heap.sub_set htk1|(simp only [Heap.set_set]; exact Heap.sub_set htk1)
def Z95_j3  (s5_4:(Sl Z3)):Option (Sl Z3):=some s5_4
def Z95_j14 (s6_9:Nat) (k_next_7:(Sl Z3)->Nat->Option (Sl Z3)) (s5_15:(Sl Z3)):Option (Sl Z3):=k_next_7 s5_15 (s6_9+1)
def Z95_l30 (a0:TDoc) (a1:TDef) (s6_9:Nat) (x28:(TDef×Bool)) (k_next_7:(Sl Z3)->Nat->Option (Sl Z3)):Nat->(Sl Z3)->Nat->Option (Sl Z3)
 | 0,_,_=>none
 | n30+1,s5_31,s10_32=>bif (decide (((s10_32:Nat):Int)<((x28.1.FFields.l.length:Nat):Int))) then((x28.1.FFields.l[s10_32]?).bind fun x38=>(Z90 a0 a1 x38).bind fun x39=>(appC 24 s5_31 x39).bind fun x40=>(Z95_l30 a0 a1 s6_9 x28 k_next_7 n30) x40 (s10_32+1)) else(Z95_j14 s6_9 k_next_7 s5_31)
def Z95_j19 (a0:TDoc) (a1:TDef) (s5_8:(Sl Z3)) (s6_9:Nat) (k_next_7:(Sl Z3)->Nat->Option (Sl Z3)) (s7_20:Int):Option (Sl Z3):=bif (!decide (s7_20=(0:Int))) then((appC 24 s5_8 (⟨false,[(Z3.mk s7_20 a1.FName)]⟩:Sl Z3)).bind fun x25=>Z95_j14 s6_9 k_next_7 x25) else((a1.FImplements.l[s6_9]?).bind fun x27=>(Z69 a0 x27).bind fun x28=>Z95_l30 a0 a1 s6_9 x28 k_next_7 (x28.1.FFields.l.length+1) s5_8 0)
def Z95_l7 (a0:TDoc) (a1:TDef) :Nat->(Sl Z3)->Nat->Option (Sl Z3)
 | 0,_,_=>none
 | n7+1,s5_8,s6_9=>bif (decide (((s6_9:Nat):Int)<((a1.FImplements.l.length:Nat):Int))) then((a1.FImplements.l[s6_9]?).bind fun x17=>(Z93 a0 x17 (2:Int)).bind fun x18=>guardO ((decide (x18=(0:Int)))) (partC a1.FImplements none (some ((s6_9:Nat):Int))) (Sl.nil:Sl Bs) fun x42=>guardO ((decide (x18=(0:Int)))) (a1.FImplements.l[s6_9]?) ([]:Bs) fun x43=>guardO ((decide (x18=(0:Int)))) (Z92 x42 x43) false fun x44=>bif ((decide (x18=(0:Int)))&&x44) then(Z95_j19 a0 a1 s5_8 s6_9 ((Z95_l7 a0 a1 n7)) (7:Int)) else(Z95_j19 a0 a1 s5_8 s6_9 ((Z95_l7 a0 a1 n7)) x18)) else(Z95_j3   s5_8)
def Z95 (a0:TDoc) (a1:TDef):Option (Sl Z3):=Z95_l7 a0 a1 (a1.FImplements.l.length+1) (Sl.nil:Sl Z3) 0
theorem Z95_walk {a0:TDoc}{a1:TDef}{r:Sl Z3}(hE:Z95 a0 a1=some r) (H:Heap) :ACalls Tryz.prog 35 [.agg (TDoc.c a0),.agg (TDef.c a1)] H fun v h'=>v=.a (.d (Sl.d 2 Z3.c none r))/\h'=H:=by
 unfold Z95 at hE;refine ACalls.oW 76 [.tmp 4] Tryz.call35 Tryz.func35 ?_;refine AWp.tok 2 fun tk1 htk1=>?_;refine seqR (S BX (S BX ?_));refine s0 (assignNil (k':=2) rfl) rfl ?_;refine nil ?_;refine seqR (S As (nil ?_));refine AWp.nilTok 5 2 tk1 rfl hpG ?_;refine seqJH KeepsT.nil (fun(z:(Sl Z3))=>[(5,.a (.d (Sl.d 2 Z3.c (some tk1) z)))]) (fun z=>(H.set tk1 (some (.tok 2 z.l.length)))) (fun z=>Z95_j3 z=some r) ?_ ?_
 ·intro K3 hK3;refine seqR (S As (nil ?_));refine block ?_;refine loopH (TA 2 (TA 3 KeepsT.nil)) (fun(z:Nat×(Sl Z3)×Nat)=>[(5,.a (.d (Sl.d 2 Z3.c (some tk1) z.2.1))),(6,.a (.d (.int .i64 ((z.2.2:Nat):Int))))]) (fun z=>(H.set tk1 (some (.tok 2 z.2.1.l.length)))) (fun z=>z.1) (fun z=>Z95_l7 a0 a1 z.1 z.2.1 z.2.2=some r) ((a1.FImplements.l.length+1),(Sl.nil:Sl Z3),0) hE Weak.toA ?_;rintro ⟨n7,s5_8,s6_9⟩ hE K7 hK7
  try dsimp only at hE
  cases n7 with
  | zero=>cases hE
  | succ n7 =>
    rw [Z95_l7] at hE;refine seqK fun K10 hK10=>?_;refine seqR (S Mv (S Fv (S Ld ?_)));refine sLen (f:=strE) (s:=a1.FImplements) (TK rfl) rfl rfl rfl rfl fun hL12=>?_;refine S BI (nil ?_);refine cE hE (fun hc13 hE=>?_) (fun hc13 hE=>?_)
    ·try dsimp only at hc13
     have hf13:=of_decide_eq_true hc13;refine sk hK10 ?_;clear hK10 K10;refine seqJH (TA 2 (TA 3 (TA 6 KeepsT.nil))) (fun(z:(Sl Z3))=>[(5,.a (.d (Sl.d 2 Z3.c (some tk1) z)))]) (fun z=>(H.set tk1 (some (.tok 2 z.l.length)))) (fun z=>Z95_j14 s6_9 ((Z95_l7 a0 a1 n7)) z=some r) ?_ ?_
     ·intro K14 hK14;refine block ?_;refine AWp.seqD (Sd Ld (Sd Fv (Sd Ld (Sd Mv ?_))));obtain⟨x17,gx17,hE⟩:=bO hE;refine Sd (ix strE s6_9 gx17) (Sd Ld ?_);obtain⟨x18,gx18,hE⟩:=bO hE;refine Scd rfl rfl (Z93_walk gx18) ?_;refine Sd As ?_;refine DOps.nil (by decide +kernel) ?_;refine seqJH (TA 2 (TA 3 (TA 5 (TA 6 KeepsT.nil)))) (fun(z:Int)=>[(7,.a (.d (.int .i64 z)))]) (fun z=>(H.set tk1 (some (.tok 2 s5_8.l.length)))) (fun z=>Z95_j19 a0 a1 s5_8 s6_9 ((Z95_l7 a0 a1 n7)) z=some r) ?_ ?_
      ·intro K19 hK19;refine AWp.seqD (Sd Mv (Sd BI (Sd Mv (G0d Fv ?_))));refine G1d 28 rfl Ld ?_;refine G0d Mv ?_;obtain⟨x42,gx42,hE⟩:=gO hE;refine DOps.gC rfl rfl (fun hC=>ungdA (k:=29) rfl (ungdA (k:=30) rfl (partM (f:=strE) (l:=none) (r:=(some ((s6_9:Nat):Int))) (TK rfl) rfl (TK rfl) rfl rfl trivial rfl (gx42 hC)))) rfl ?_;refine G0d Fv ?_;refine G1d 32 rfl Ld ?_;refine G0d Mv ?_;obtain⟨x43,gx43,hE⟩:=gO hE
       refine DOps.gC rfl rfl (fun hC=>ungdA (k:=33) rfl (ungdA (k:=34) rfl (idxMn (f:=strE) (n:=s6_9) (TK rfl) rfl (TK rfl) rfl rfl rfl (gx43 hC)))) rfl ?_;refine G1d 35 rfl Ld ?_;obtain⟨x44,gx44,hE⟩:=gO hE;refine Gc2d 31 36 rfl rfl rfl rfl rfl rfl (fun hC=>Z92_walk (gx44 hC)) ?_;refine Sd PA ?_;refine DOps.nil (by decide +kernel) ?_;refine cE hE (fun hc45 hE=>?_) (fun hc45 hE=>?_)
       ·refine region ?_;refine S As (nil ?_);exact hK19 _ (7:Int) Weak.toA hE
       refine AWp.skip ?_;exact hK19 _ x18 Weak.toA hE
      rintro s7_20 hE;try dsimp only at hE
      unfold Z95_j19 at hE;refine seqK fun K21 hK21=>?_;refine seqR (S Mv (S BI (nil ?_)));refine cE hE (fun hc23 hE=>?_) (fun hc23 hE=>?_)
      ·refine seqR (S Mv (S Mv (S Fv (S Ld (S BU (S BV ?_))))));obtain⟨x25,gx25,hE⟩:=bO hE;refine SH (am Z3.c (TK rfl) rfl (TK rfl) (TK rfl) gx25) ?_;refine hq (H.set tk1 (some (.tok 2 x25.l.length))) ?_;refine S As (nil ?_);refine AWp.exit ?_;exact hK14 _ x25 Weak.toA hE
      refine sk hK21 ?_;clear hK21 K21;refine AWp.seqD (Sd Ld (Sd Fv (Sd Ld (Sd Mv ?_))));obtain⟨x27,gx27,hE⟩:=bO hE;refine Sd (ix strE s6_9 gx27) (Sd Ld ?_);obtain⟨x28,gx28,hE⟩:=bO hE;refine Scd rfl rfl (Z69_walk gx28) ?_;refine Sd Mv (Sd EX (Sd EX ?_));refine DOps.sB (TK rfl) rfl rfl ?_ (by repeat (first|exact Snoc.nil|apply Snoc.cons));refine DOps.sLn (storeLFA (TK rfl) rfl rfl rfl rfl rfl) ?_;refine Sd As ?_
      refine DOps.nil (by decide +kernel) ?_;refine freezeA 8 _ rfl (KA 2 (KA 3 (KA 5 (KA 6 Keeps.nil)))) ?_;refine seqR (S As (nil ?_));refine block ?_;refine loopH (TA 2 (TA 3 (TA 6 (TA 8 KeepsT.nil)))) (fun(z:Nat×(Sl Z3)×Nat)=>[(5,.a (.d (Sl.d 2 Z3.c (some tk1) z.2.1))),(10,.a (.d (.int .i64 ((z.2.2:Nat):Int))))]) (fun z=>(H.set tk1 (some (.tok 2 z.2.1.l.length)))) (fun z=>z.1) (fun z=>Z95_l30 a0 a1 s6_9 x28 ((Z95_l7 a0 a1 n7)) z.1 z.2.1 z.2.2=some r) ((x28.1.FFields.l.length+1),s5_8,0) hE Weak.toA ?_
      rintro ⟨n30,s5_31,s10_32⟩ hE K30 hK30;try dsimp only at hE
      cases n30 with
      | zero=>cases hE
      | succ n30 =>
        rw [Z95_l30] at hE;refine seqK fun K33 hK33=>?_;refine seqR (S Mv (S Fv (S Ld ?_)));refine sLen (f:=Z4.c) (s:=x28.1.FFields) (TK rfl) rfl rfl rfl rfl fun hL35=>?_;refine S BI (nil ?_);refine cE hE (fun hc36 hE=>?_) (fun hc36 hE=>?_)
        ·try dsimp only at hc36
         have hf36:=of_decide_eq_true hc36;refine sk hK33 ?_;clear hK33 K33;refine seqK fun K37 hK37=>?_;refine block ?_;refine AWp.draw rfl ?_;refine Sd Mv (Sd Ld (Sd Ld (Sd Fv (Sd Ld (Sd Mv ?_)))));obtain⟨x38,gx38,hE⟩:=bO hE;refine Sd (ix Z4.c s10_32 gx38) (Sd Ld ?_);obtain⟨x39,gx39,hE⟩:=bO hE;refine Scd rfl rfl (Z90_walk gx39) ?_;obtain⟨x40,gx40,hE⟩:=bO hE;refine DOps.sH (appM (f:=Z3.c) (TK rfl) rfl (TK rfl) (TK rfl) ⟨_,rfl⟩ rfl rfl (by decide) rfl rfl rfl rfl hpG rfl gx40) rfl ?_
         refine DOps.Dh (H.set tk1 (some (.tok 2 x40.l.length))) ?_;refine Sd As ?_;refine DOps.nil (by decide +kernel) ?_;refine hK37 _ ?_;clear hK37 K37;refine region ?_;refine S Mv ?_;refine SI ?_;refine S As (nil ?_);exact hK30 _ (n30,x40,(s10_32+1)) Weak.toA hE (Nat.lt_succ_self _)
        refine AWp.exit ?_;exact hK14 _ s5_31 Weak.toA hE
     rintro s5_15 hE;try dsimp only at hE
     unfold Z95_j14 at hE;refine region ?_;refine S Mv ?_;refine SI ?_;refine S As (nil ?_);exact hK7 _ (n7,s5_15,(s6_9+1)) Weak.toA hE (Nat.lt_succ_self _)
    refine AWp.exit ?_;exact hK3 _ s5_8 Weak.toA hE
 rintro s5_4 hE;try dsimp only at hE
 unfold Z95_j3 at hE;refine seqR (S Mv (S As (nil ?_)));refine AWp.dropTok 4 rfl ?_;refine AWp.ret ?_;repeat (first|refine xBlock_ret ?_|refine xThen_ret ?_)
 obtain rfl:=Option.some.inj hE;refine retQ.retF H rfl ⟨rfl,rfl⟩ ?_
 first|exact Heap.sub_set htk1|(simp only [Heap.set_set]; exact Heap.sub_set htk1)
def Z96_j3  (s5_4:(Sl Z3)):Option (Sl Z3):=some s5_4
def Z96_j14 (s6_9:Nat) (k_next_7:(Sl Z3)->Nat->Option (Sl Z3)) (s5_15:(Sl Z3)):Option (Sl Z3):=k_next_7 s5_15 (s6_9+1)
def Z96_j20 (a1:TDef) (s5_8:(Sl Z3)) (s6_9:Nat) (x17:Z6) (k_next_7:(Sl Z3)->Nat->Option (Sl Z3)) (s8_21:Int):Option (Sl Z3):=bif (!decide (s8_21=(0:Int))) then((catC a1.FName ([46]:Bs)).bind fun x24=>(catC x24 x17.FName).bind fun x25=>(appC 24 s5_8 (⟨false,[(Z3.mk s8_21 x25)]⟩:Sl Z3)).bind fun x26=>Z96_j14 s6_9 k_next_7 x26) else(Z96_j14 s6_9 k_next_7 s5_8)
def Z96_l7 (a0:TDoc) (a1:TDef) :Nat->(Sl Z3)->Nat->Option (Sl Z3)
 | 0,_,_=>none
 | n7+1,s5_8,s6_9=>bif (decide (((s6_9:Nat):Int)<((a1.FMembers.l.length:Nat):Int))) then((a1.FMembers.l[s6_9]?).bind fun x17=>(Z93 a0 x17.FName (1:Int)).bind fun x19=>guardO ((decide (x19=(0:Int)))) (partC a1.FMembers none (some ((s6_9:Nat):Int))) (Sl.nil:Sl Z6) fun x28=>guardO ((decide (x19=(0:Int)))) (Z94 (TDef.mk (0:Int) ([]:Bs) (Sl.nil:Sl Bs) (Sl.nil:Sl TDir) (Sl.nil:Sl Z4) x28 (Sl.nil:Sl Z5)) x17.FName) false fun x29=>bif ((decide (x19=(0:Int)))&&x29) then(Z96_j20 a1 s5_8 s6_9 x17 ((Z96_l7 a0 a1 n7)) (7:Int)) else(Z96_j20 a1 s5_8 s6_9 x17 ((Z96_l7 a0 a1 n7)) x19)) else(Z96_j3   s5_8)
def Z96 (a0:TDoc) (a1:TDef):Option (Sl Z3):=Z96_l7 a0 a1 (a1.FMembers.l.length+1) (Sl.nil:Sl Z3) 0
theorem Z96_walk {a0:TDoc}{a1:TDef}{r:Sl Z3}(hE:Z96 a0 a1=some r) (H:Heap) :ACalls Tryz.prog 36 [.agg (TDoc.c a0),.agg (TDef.c a1)] H fun v h'=>v=.a (.d (Sl.d 2 Z3.c none r))/\h'=H:=by
 unfold Z96 at hE;refine ACalls.oW 49 [.tmp 4] Tryz.call36 Tryz.func36 ?_;refine AWp.tok 2 fun tk1 htk1=>?_;refine seqR (S BX (S BX ?_));refine s0 (assignNil (k':=2) rfl) rfl ?_;refine nil ?_;refine seqR (S As (nil ?_));refine AWp.nilTok 5 2 tk1 rfl hpG ?_;refine seqJH KeepsT.nil (fun(z:(Sl Z3))=>[(5,.a (.d (Sl.d 2 Z3.c (some tk1) z)))]) (fun z=>(H.set tk1 (some (.tok 2 z.l.length)))) (fun z=>Z96_j3 z=some r) ?_ ?_
 ·intro K3 hK3;refine seqR (S As (nil ?_));refine block ?_;refine loopH (TA 2 (TA 3 KeepsT.nil)) (fun(z:Nat×(Sl Z3)×Nat)=>[(5,.a (.d (Sl.d 2 Z3.c (some tk1) z.2.1))),(6,.a (.d (.int .i64 ((z.2.2:Nat):Int))))]) (fun z=>(H.set tk1 (some (.tok 2 z.2.1.l.length)))) (fun z=>z.1) (fun z=>Z96_l7 a0 a1 z.1 z.2.1 z.2.2=some r) ((a1.FMembers.l.length+1),(Sl.nil:Sl Z3),0) hE Weak.toA ?_;rintro ⟨n7,s5_8,s6_9⟩ hE K7 hK7
  try dsimp only at hE
  cases n7 with
  | zero=>cases hE
  | succ n7 =>
    rw [Z96_l7] at hE;refine seqK fun K10 hK10=>?_;refine seqR (S Mv (S Fv (S Ld ?_)));refine sLen (f:=Z6.c) (s:=a1.FMembers) (TK rfl) rfl rfl rfl rfl fun hL12=>?_;refine S BI (nil ?_);refine cE hE (fun hc13 hE=>?_) (fun hc13 hE=>?_)
    ·try dsimp only at hc13
     have hf13:=of_decide_eq_true hc13;refine sk hK10 ?_;clear hK10 K10;refine seqJH (TA 2 (TA 3 (TA 6 KeepsT.nil))) (fun(z:(Sl Z3))=>[(5,.a (.d (Sl.d 2 Z3.c (some tk1) z)))]) (fun z=>(H.set tk1 (some (.tok 2 z.l.length)))) (fun z=>Z96_j14 s6_9 ((Z96_l7 a0 a1 n7)) z=some r) ?_ ?_
     ·intro K14 hK14;refine block ?_;refine seqR (S Fv (S Ld (S Mv ?_)));obtain⟨x17,gx17,hE⟩:=bO hE;refine S (ix Z6.c s6_9 gx17) (S Fv (S Ld (S As (nil ?_))));refine seqR (S Ld (S Mv ?_));obtain⟨x19,gx19,hE⟩:=bO hE;refine Sc rfl rfl (Z93_walk gx19) ?_;refine S As (nil ?_);refine seqJH (TA 2 (TA 3 (TA 5 (TA 6 (TA 7 KeepsT.nil))))) (fun(z:Int)=>[(8,.a (.d (.int .i64 z)))]) (fun z=>(H.set tk1 (some (.tok 2 s5_8.l.length)))) (fun z=>Z96_j20 a1 s5_8 s6_9 x17 ((Z96_l7 a0 a1 n7)) z=some r) ?_ ?_
      ·intro K20 hK20;refine seqR (S Mv (S BI (S Mv (G0 Fv ?_))));refine G1 28 rfl Ld ?_;refine G0 Mv ?_;obtain⟨x28,gx28,hE⟩:=gO hE;refine gC rfl rfl (fun hC=>ungdA (k:=29) rfl (ungdA (k:=30) rfl (partM (f:=Z6.c) (l:=none) (r:=(some ((s6_9:Nat):Int))) (TK rfl) rfl (TK rfl) rfl rfl trivial rfl (gx28 hC)))) rfl ?_;refine G1 31 rfl BU ?_;refine G0 Mv ?_;obtain⟨x29,gx29,hE⟩:=gO hE;refine Gc2 32 33 rfl rfl rfl rfl rfl rfl (fun hC=>Z94_walk (gx29 hC)) ?_
       refine S PA (nil ?_);refine cE hE (fun hc30 hE=>?_) (fun hc30 hE=>?_)
       ·refine region ?_;refine S As (nil ?_);exact hK20 _ (7:Int) Weak.toA hE
       refine AWp.skip ?_;exact hK20 _ x19 Weak.toA hE
      rintro s8_21 hE;try dsimp only at hE
      unfold Z96_j20 at hE;refine seqR (S Mv (S BI (nil ?_)));refine cE hE (fun hc23 hE=>?_) (fun hc23 hE=>?_)
      ·refine region ?_;refine S Mv (S Mv (S Fv (S Ld ?_)));obtain⟨x24,gx24,hE⟩:=bO hE;refine s0 (catM rfl rfl gx24) rfl ?_;refine S Mv ?_;obtain⟨x25,gx25,hE⟩:=bO hE;refine s0 (catM rfl rfl gx25) rfl ?_;refine S BU (S BV ?_);obtain⟨x26,gx26,hE⟩:=bO hE;refine SH (am Z3.c (TK rfl) rfl (TK rfl) (TK rfl) gx26) ?_;refine hq (H.set tk1 (some (.tok 2 x26.l.length))) ?_;refine S As (nil ?_);exact hK14 _ x26 Weak.toA hE
      refine AWp.skip ?_;exact hK14 _ s5_8 Weak.toA hE
     rintro s5_15 hE;try dsimp only at hE
     unfold Z96_j14 at hE;refine region ?_;refine S Mv ?_;refine SI ?_;refine S As (nil ?_);exact hK7 _ (n7,s5_15,(s6_9+1)) Weak.toA hE (Nat.lt_succ_self _)
    refine AWp.exit ?_;exact hK3 _ s5_8 Weak.toA hE
 rintro s5_4 hE;try dsimp only at hE
 unfold Z96_j3 at hE;refine seqR (S Mv (S As (nil ?_)));refine AWp.dropTok 4 rfl ?_;refine AWp.ret ?_;repeat (first|refine xBlock_ret ?_|refine xThen_ret ?_)
 obtain rfl:=Option.some.inj hE;refine retQ.retF H rfl ⟨rfl,rfl⟩ ?_
 first|exact Heap.sub_set htk1|(simp only [Heap.set_set]; exact Heap.sub_set htk1)
end Go.Proofs

namespace Go.Proofs
open Go Go.Ab
open AOps Cert AWp Keeps KeepsT
variable {lou:Lou}
def Z86_j3  (s3_4:(Sl Z3)):Option (Sl Z3):=some s3_4
def Z86_j14 (s4_9:Nat) (k_next_7:(Sl Z3)->Nat->Option (Sl Z3)) (s3_15:(Sl Z3)):Option (Sl Z3):=k_next_7 s3_15 (s4_9+1)
def Z86_l7 (a0:TDoc) :Nat->(Sl Z3)->Nat->Option (Sl Z3)
 | 0,_,_=>none
 | n7+1,s3_8,s4_9=>bif (decide (((s4_9:Nat):Int)<((a0.FDefs.l.length:Nat):Int))) then((a0.FDefs.l[s4_9]?).bind fun x17=>bif (decide (x17.FKind=(1:Int))) then((a0.FDefs.l[s4_9]?).bind fun x20=>(Z95 a0 x20).bind fun x21=>(appC 24 s3_8 x21).bind fun x22=>Z86_j14 s4_9 ((Z86_l7 a0 n7)) x22) else(bif (decide (x17.FKind=(3:Int))) then((a0.FDefs.l[s4_9]?).bind fun x25=>(Z96 a0 x25).bind fun x26=>(appC 24 s3_8 x26).bind fun x27=>Z86_j14 s4_9 ((Z86_l7 a0 n7)) x27) else(Z86_j14 s4_9 ((Z86_l7 a0 n7)) s3_8))) else(Z86_j3   s3_8)
def Z86 (a0:TDoc):Option (Sl Z3):=Z86_l7 a0 (a0.FDefs.l.length+1) (Sl.nil:Sl Z3) 0
theorem Z86_walk {a0:TDoc}{r:Sl Z3}(hE:Z86 a0=some r) (H:Heap) :ACalls Tryz.prog 13 [.agg (TDoc.c a0)] H fun v h'=>v=.a (.d (Sl.d 2 Z3.c none r))/\h'=H:=by
 unfold Z86 at hE;refine ACalls.oW 41 [.tmp 2] Tryz.call13 Tryz.func13 ?_;refine AWp.tok 2 fun tk1 htk1=>?_;refine seqR (S BX ?_);refine s0 (assignNil (k':=2) rfl) rfl ?_;refine nil ?_;refine seqR (S As (nil ?_));refine AWp.nilTok 3 2 tk1 rfl hpG ?_;refine seqJH KeepsT.nil (fun(z:(Sl Z3))=>[(3,.a (.d (Sl.d 2 Z3.c (some tk1) z)))]) (fun z=>(H.set tk1 (some (.tok 2 z.l.length)))) (fun z=>Z86_j3 z=some r) ?_ ?_
 ·intro K3 hK3;refine seqR (S As (nil ?_));refine block ?_;refine loopH (TA 1 KeepsT.nil) (fun(z:Nat×(Sl Z3)×Nat)=>[(3,.a (.d (Sl.d 2 Z3.c (some tk1) z.2.1))),(4,.a (.d (.int .i64 ((z.2.2:Nat):Int))))]) (fun z=>(H.set tk1 (some (.tok 2 z.2.1.l.length)))) (fun z=>z.1) (fun z=>Z86_l7 a0 z.1 z.2.1 z.2.2=some r) ((a0.FDefs.l.length+1),(Sl.nil:Sl Z3),0) hE Weak.toA ?_;rintro ⟨n7,s3_8,s4_9⟩ hE K7 hK7;try dsimp only at hE
  cases n7 with
  | zero=>cases hE
  | succ n7 =>
    rw [Z86_l7] at hE;refine seqK fun K10 hK10=>?_;refine seqR (S Mv (S Fv (S Ld ?_)));refine sLen (f:=TDef.c) (s:=a0.FDefs) (TK rfl) rfl rfl rfl rfl fun hL12=>?_;refine S BI (nil ?_);refine cE hE (fun hc13 hE=>?_) (fun hc13 hE=>?_)
    ·try dsimp only at hc13
     have hf13:=of_decide_eq_true hc13;refine sk hK10 ?_;clear hK10 K10;refine seqJH (TA 1 (TA 4 KeepsT.nil)) (fun(z:(Sl Z3))=>[(3,.a (.d (Sl.d 2 Z3.c (some tk1) z)))]) (fun z=>(H.set tk1 (some (.tok 2 z.l.length)))) (fun z=>Z86_j14 s4_9 ((Z86_l7 a0 n7)) z=some r) ?_ ?_
     ·intro K14 hK14;refine block ?_;refine seqR (S Fv (S Ld (S Mv ?_)));obtain⟨x17,gx17,hE⟩:=bO hE;refine S (ix TDef.c s4_9 gx17) (S Fv (S Ld (nil ?_)));refine block ?_;refine seqR (S BI (S As (nil ?_)));refine cE hE (fun hc19 hE=>?_) (fun hc19 hE=>?_)
      ·refine AWp.draw rfl ?_;refine Sd Mv (Sd Ld (Sd Fv (Sd Ld (Sd Mv ?_))));obtain⟨x20,gx20,hE⟩:=bO hE;refine Sd (ix TDef.c s4_9 gx20) (Sd Ld ?_);obtain⟨x21,gx21,hE⟩:=bO hE;refine Scd rfl rfl (Z95_walk gx21) ?_;obtain⟨x22,gx22,hE⟩:=bO hE;refine DOps.sH (appM (f:=Z3.c) (TK rfl) rfl (TK rfl) (TK rfl) ⟨_,rfl⟩ rfl rfl (by decide) rfl rfl rfl rfl hpG rfl gx22) rfl ?_;refine DOps.Dh (H.set tk1 (some (.tok 2 x22.l.length))) ?_
       refine Sd As ?_;refine DOps.nil (by decide +kernel) ?_;exact hK14 _ x22 Weak.toA hE
      refine seqR (S BI (S As (nil ?_)));refine cE hE (fun hc24 hE=>?_) (fun hc24 hE=>?_)
      ·refine AWp.draw rfl ?_;refine Sd Mv (Sd Ld (Sd Fv (Sd Ld (Sd Mv ?_))));obtain⟨x25,gx25,hE⟩:=bO hE;refine Sd (ix TDef.c s4_9 gx25) (Sd Ld ?_);obtain⟨x26,gx26,hE⟩:=bO hE;refine Scd rfl rfl (Z96_walk gx26) ?_;obtain⟨x27,gx27,hE⟩:=bO hE;refine DOps.sH (appM (f:=Z3.c) (TK rfl) rfl (TK rfl) (TK rfl) ⟨_,rfl⟩ rfl rfl (by decide) rfl rfl rfl rfl hpG rfl gx27) rfl ?_;refine DOps.Dh (H.set tk1 (some (.tok 2 x27.l.length))) ?_
       refine Sd As ?_;refine DOps.nil (by decide +kernel) ?_;exact hK14 _ x27 Weak.toA hE
      refine AWp.skip ?_;exact hK14 _ s3_8 Weak.toA hE
     rintro s3_15 hE;try dsimp only at hE
     unfold Z86_j14 at hE;refine region ?_;refine S Mv ?_;refine SI ?_;refine S As (nil ?_);exact hK7 _ (n7,s3_15,(s4_9+1)) Weak.toA hE (Nat.lt_succ_self _)
    refine AWp.exit ?_;exact hK3 _ s3_8 Weak.toA hE
 rintro s3_4 hE;try dsimp only at hE
 unfold Z86_j3 at hE;refine seqR (S Mv (S As (nil ?_)));refine AWp.dropTok 2 rfl ?_;refine AWp.ret ?_;repeat (first|refine xBlock_ret ?_|refine xThen_ret ?_)
 obtain rfl:=Option.some.inj hE;refine retQ.retF H rfl ⟨rfl,rfl⟩ ?_
 first|exact Heap.sub_set htk1|(simp only [Heap.set_set]; exact Heap.sub_set htk1)
def Z32 (a0:TDoc):Option Bool:=(Z57 a0 (600:Int)).bind fun x3=>guardO (((decide (x3<=(600:Int)))&&!(decide (((a0.FDefs.l.length:Nat):Int)=(0:Int))))) (Z56 a0) false fun x4=>guardO (((decide (x3<=(600:Int)))&&((decide (((a0.FDefs.l.length:Nat):Int)=(0:Int)))||x4))) (Z67 a0 false) (Sl.nil:Sl Z3) fun x5=>guardO ((((decide (x3<=(600:Int)))&&((decide (((a0.FDefs.l.length:Nat):Int)=(0:Int)))||x4))&&(decide (((x5.l.length:Nat):Int)=(0:Int))))) (Z86 a0) (Sl.nil:Sl Z3) fun x6=>some ((((decide (x3<=(600:Int)))&&((decide (((a0.FDefs.l.length:Nat):Int)=(0:Int)))||x4))&&(decide (((x5.l.length:Nat):Int)=(0:Int))))&&(decide (((x6.l.length:Nat):Int)=(0:Int))))
theorem Z32_walk {a0:TDoc}{r:Bool}(hE:Z32 a0=some r) (H:Heap) :ACalls Tryz.prog 4 [.agg (TDoc.c a0)] H fun v h'=>v=.a (.d (.bool r))/\h'=H:=by
 unfold Z32 at hE;refine ACalls.oW 28 [.tmp 2] Tryz.call4 Tryz.func4 ?_;refine seqR (S BX (S As (nil ?_)));refine seqR (S Ld ?_);obtain⟨x3,gx3,hE⟩:=bO hE;refine Sc rfl rfl (Z57_walk gx3) ?_;refine S BI (S Mv (G0 Fv ?_));refine G1 7 rfl Ld ?_;refine gC rfl rfl (fun hC=>ungdA (k:=8) rfl (lenM' (f:=TDef.c) (s:=a0.FDefs) (TK rfl) rfl rfl rfl)) rfl ?_;refine G1 9 rfl BI ?_;refine G1 10 rfl Mv ?_;refine G0 Ld ?_
 obtain⟨x4,gx4,hE⟩:=gO hE;refine Gc1 12 rfl rfl rfl rfl rfl (fun hC=>Z56_walk (gx4 hC)) ?_;refine gC rfl rfl (fun hC=>ungdA (k:=11) rfl (pickOrA rfl rfl rfl)) rfl ?_;refine S PA (S Mv (G0 Ld ?_));obtain⟨x5,gx5,hE⟩:=gO hE;refine Gc1 17 rfl rfl rfl rfl rfl (fun hC=>Z67_walk (gx5 hC)) ?_;refine gC rfl rfl (fun hC=>ungdA (k:=18) rfl (lenM' (f:=Z3.c) (s:=x5) (TK rfl) rfl rfl rfl)) rfl ?_;refine G1 19 rfl BI ?_
 refine S PA (S Mv (G0 Ld ?_));obtain⟨x6,gx6,hE⟩:=gO hE;refine Gc1 23 rfl rfl rfl rfl rfl (fun hC=>Z86_walk (gx6 hC)) ?_;refine gC rfl rfl (fun hC=>ungdA (k:=24) rfl (lenM' (f:=Z3.c) (s:=x6) (TK rfl) rfl rfl rfl)) rfl ?_;refine G1 25 rfl BI ?_;refine S PA (S As (nil ?_));exact rt hE
def Z98_j2  (y3_l0:TDef):Option (TDef×Bool):=some ((TDef.mk (0:Int) ([]:Bs) (Sl.nil:Sl Bs) (Sl.nil:Sl TDir) (Sl.nil:Sl Z4) (Sl.nil:Sl Z6) (Sl.nil:Sl Z5)),false)
def Z98_l7 (a0:TDoc) (a1:Bs) :Nat->Nat->TDef->Option (TDef×Bool)
 | 0,_,_=>none
 | n7+1,s11_8,y9_l0=>bif (decide (((s11_8:Nat):Int)<((a0.FDefs.l.length:Nat):Int))) then((a0.FDefs.l[s11_8]?).bind fun x15=>bif ((x15.FName==a1)) then(some (x15,true)) else((Z98_l7 a0 a1 n7) (s11_8+1) y9_l0)) else(Z98_j2   y9_l0)
def Z98 (a0:TDoc) (a1:Bs):Option (TDef×Bool):=Z98_l7 a0 a1 (a0.FDefs.l.length+1) 0 TDef.zero
theorem Z98_walk {a0:TDoc}{a1:Bs}{r:TDef×Bool}(hE:Z98 a0 a1=some r) (H:Heap) :ACalls Tryz.prog 8 [.agg (TDoc.c a0),.d (.str a1)] H fun v h'=>v=.tup [.agg (TDef.c r.1),.d (.bool r.2)]/\h'=H:=by
 unfold Z98 at hE;refine ACalls.oW 22 [.cell 4 38,.tmp 5] Tryz.call8 Tryz.func8 ?_;refine seqR (S BX ?_);refine Sl ?_;refine S As (nil ?_);refine seqJ (TA 4 KeepsT.nil) (fun(z:TDef)=>[]) (fun z=>[TDef.c z]) (fun z=>H) (fun z=>Z98_j2 z=some r) ?_ ?_
 ·intro K2 hK2;refine seqR (S Fv (S Ld ?_));refine sLen (f:=TDef.c) (s:=a0.FDefs) (TK rfl) rfl rfl rfl rfl fun hL6=>?_;refine S Mv (nil ?_);refine block ?_;refine loopO (TA 1 (TA 4 (TA 9 (TA 10 KeepsT.nil)))) (fun(z:Nat×Nat×TDef)=>[(11,.a (.d (.int .i64 ((z.2.1:Nat):Int))))]) (fun z=>[TDef.c z.2.2]) (fun z=>H) (fun z=>z.1) (fun z=>Z98_l7 a0 a1 z.1 z.2.1 z.2.2=some r) ((a0.FDefs.l.length+1),0,TDef.zero) hE Weak.toA ?_
  rintro ⟨n7,s11_8,y9_l0⟩ hE K7 hK7;try dsimp only at hE
  cases n7 with
  | zero=>cases hE
  | succ n7 =>
    rw [Z98_l7] at hE;refine seqR (S BI (nil ?_));refine seqK fun K11 hK11=>?_;refine cE hE (fun hc12 hE=>?_) (fun hc12 hE=>?_)
    ·try dsimp only at hc12
     have hf12:=of_decide_eq_true hc12;refine sk hK11 ?_;clear hK11 K11;refine seqK fun K13 hK13=>?_;refine block ?_;refine seqR ?_;obtain⟨x15,gx15,hE⟩:=bO hE;refine S (ix TDef.c s11_8 gx15) (S Ld ?_);refine Sl ?_;refine Sf ?_;refine nil ?_;refine freezeA 7 _ rfl (KA 1 (KA 4 (KA 9 (KA 10 (KA 11 Keeps.nil))))) ?_;refine seqR (S Fv (S Ld (S Mv (S BS (nil ?_)))));refine cE hE (fun hc17 hE=>?_) (fun hc17 hE=>?_)
     ·refine seqR (S Ld ?_);refine Sf ?_;refine S As (nil ?_);exact rt hE
     refine sk hK13 ?_;clear hK13 K13;refine region ?_;refine SI ?_;refine S Mv (nil ?_);exact hK7 _ (n7,(s11_8+1),y9_l0) Weak.toA hE (Nat.lt_succ_self _)
    refine AWp.exit ?_;exact hK2 _ y9_l0 Weak.toA hE
 rintro y3_l0 hE;try dsimp only at hE
 unfold Z98_j2 at hE;refine seqR (S BU ?_);refine Sf ?_;refine S As (nil ?_);exact rt hE
def Z13 (a0:Z0) (a1:Int) (a2:Bs) (a3:Bs) (a4:Bs) (a5:Bs):Option Z0:=(appC 88 a0.Fout (⟨false,[(Z2.mk a1 a0.Fname a2 a3 a4 a5)]⟩:Sl Z2)).bind fun x1=>some (Z0.mk a0.Fname x1)
theorem Z13_walk {a0:Z0}{a1:Int}{a2 a3 a4 a5:Bs}{c0 c0_1:Nat}{r:Z0}(hE:Z13 a0 a1 a2 a3 a4 a5=some r) (H:Heap) (hc0:H c0=some (.cells (Z0.cg (some c0_1) a0))) (ht0_1:H c0_1=some (.tok 6 a0.Fout.l.length)):ACalls Tryz.prog 16 [.d (.ptr c0 0),.d (.int .i64 a1),.d (.str a2),.d (.str a3),.d (.str a4),.d (.str a5)] H fun v h'=>v=.tup []/\h'=((H.set c0_1 (some (.tok 6 r.Fout.l.length))).set c0 (some (.cells (Z0.cg (some c0_1) r)))):=by
 unfold Z13 at hE;refine ACalls.oW 31 [] Tryz.call16 Tryz.func16 ?_;have ne_c0_c0_1:c0≠c0_1:=fun e_=>by subst e_; simp_all
 refine AWp.heqA (h':=((H.set c0_1 (some (.tok 6 a0.Fout.l.length))).set c0 (some (.cells (Z0.cg (some c0_1) a0))))) (by funext n_; simp only [Heap.set]; (repeat' split)<;>simp_all) ?_;refine AWp.draw rfl ?_;refine Sd Mv (Sd Mv (Sd NP ?_));refine DOps.s0 (fieldP (TK rfl) rfl rfl (TK rfl) rfl rfl) rfl ?_;refine DOps.s0 (loadP (TK rfl) rfl rfl hpG rfl) rfl ?_;refine Sd Mv (Sd Mv (Sd NP ?_));refine DOps.s0 (fieldP (TK rfl) rfl rfl (TK rfl) rfl rfl) rfl ?_
 refine DOps.s0 (loadP (TK rfl) rfl rfl hpG rfl) rfl ?_;refine Sd Mv (Sd Mv (Sd Mv (Sd Mv (Sd BU (Sd BV ?_)))));obtain⟨x1,gx1,hE⟩:=bO hE;refine DOps.sH (appM (f:=Z2.c) (TK rfl) rfl (TK rfl) (TK rfl) ⟨_,rfl⟩ rfl rfl (by decide) rfl rfl rfl rfl hpG rfl gx1) rfl ?_;refine DOps.Dh ((H.set c0_1 (some (.tok 6 x1.l.length))).set c0 (some (.cells (Z0.cg (some c0_1) a0)))) ?_;refine Sd NP ?_;refine DOps.s0 (fieldP (TK rfl) rfl rfl (TK rfl) rfl rfl) rfl ?_
 refine DOps.sHn (storeP1 (TK rfl) rfl rfl hpG rfl (by repeat (first|exact SetAt.zero|apply SetAt.succ))) rfl rfl ?_;refine DOps.Dh ((H.set c0_1 (some (.tok 6 x1.l.length))).set c0 (some (.cells (Z0.cg (some c0_1) (Z0.mk a0.Fname x1))))) ?_;refine DOps.nil (by decide +kernel) ?_;repeat (first|refine xBlock_normal ?_|refine xThen_exit ?_|refine xBlock_exit ?_)
 obtain rfl:=Option.some.inj hE;refine retQ.normalF ((H.set c0_1 (some (.tok 6 x1.l.length))).set c0 (some (.cells (Z0.cg (some c0_1) (Z0.mk a0.Fname x1))))) (xs:=[]) rfl ⟨rfl,rfl⟩ ?_;exact(fun _ _ h=>h)
def Z20 (a0:Int):Option Bs:=bif (decide (a0=(1:Int))) then(some ([116,121,112,101]:Bs)) else(bif (decide (a0=(2:Int))) then(some ([105,110,116,101,114,102,97,99,101]:Bs)) else(bif (decide (a0=(3:Int))) then(some ([117,110,105,111,110]:Bs)) else(bif (decide (a0=(4:Int))) then(some ([101,110,117,109]:Bs)) else(some ([105,110,112,117,116]:Bs)))))
theorem Z20_walk {a0:Int}{r:Bs}(hE:Z20 a0=some r) (H:Heap) :ACalls Tryz.prog 17 [.d (.int .i64 a0)] H fun v h'=>v=.a (.d (.str r))/\h'=H:=by
 unfold Z20 at hE;refine ACalls.oW 12 [.tmp 2] Tryz.call17 Tryz.func17 ?_;refine seqR (S As (nil ?_));refine seqK fun K2 hK2=>?_;refine seqR (S Mv (nil ?_));refine block ?_;refine seqR (S BI (S As (nil ?_)));refine cE hE (fun hc5 hE=>?_) (fun hc5 hE=>?_)
 ·refine seqR (S As (nil ?_));exact rt hE
 refine seqR (S BI (S As (nil ?_)));refine cE hE (fun hc8 hE=>?_) (fun hc8 hE=>?_)
 ·refine seqR (S As (nil ?_));exact rt hE
 refine seqR (S BI (S As (nil ?_)));refine cE hE (fun hc11 hE=>?_) (fun hc11 hE=>?_)
 ·refine seqR (S As (nil ?_));exact rt hE
 refine seqR (S BI (S As (nil ?_)));refine cE hE (fun hc14 hE=>?_) (fun hc14 hE=>?_)
 ·refine seqR (S As (nil ?_));exact rt hE
 refine sk hK2 ?_;clear hK2 K2;refine seqR (S As (nil ?_));exact rt hE
def Z97_j2  (y3_l0:Z4):Option (Z4×Bool):=some ((Z4.mk ([]:Bs) (Sl.nil:Sl Z5) TRef.zero (Sl.nil:Sl TDir)),false)
def Z97_l7 (a0:TDef) (a1:Bs) :Nat->Nat->Z4->Option (Z4×Bool)
 | 0,_,_=>none
 | n7+1,s11_8,y9_l0=>bif (decide (((s11_8:Nat):Int)<((a0.FFields.l.length:Nat):Int))) then((a0.FFields.l[s11_8]?).bind fun x15=>bif ((x15.FName==a1)) then(some (x15,true)) else((Z97_l7 a0 a1 n7) (s11_8+1) y9_l0)) else(Z97_j2   y9_l0)
def Z97 (a0:TDef) (a1:Bs):Option (Z4×Bool):=Z97_l7 a0 a1 (a0.FFields.l.length+1) 0 Z4.zero
theorem Z97_walk {a0:TDef}{a1:Bs}{r:Z4×Bool}(hE:Z97 a0 a1=some r) (H:Heap) :ACalls Tryz.prog 23 [.agg (TDef.c a0),.d (.str a1)] H fun v h'=>v=.tup [.agg (Z4.c r.1),.d (.bool r.2)]/\h'=H:=by
 unfold Z97 at hE;refine ACalls.oW 22 [.cell 4 64,.tmp 5] Tryz.call23 Tryz.func23 ?_;refine seqR (S BX ?_);refine Sl ?_;refine S As (nil ?_);refine seqJ (TA 4 KeepsT.nil) (fun(z:Z4)=>[]) (fun z=>[Z4.c z]) (fun z=>H) (fun z=>Z97_j2 z=some r) ?_ ?_
 ·intro K2 hK2;refine seqR (S Fv (S Ld ?_));refine sLen (f:=Z4.c) (s:=a0.FFields) (TK rfl) rfl rfl rfl rfl fun hL6=>?_;refine S Mv (nil ?_);refine block ?_;refine loopO (TA 1 (TA 4 (TA 9 (TA 10 KeepsT.nil)))) (fun(z:Nat×Nat×Z4)=>[(11,.a (.d (.int .i64 ((z.2.1:Nat):Int))))]) (fun z=>[Z4.c z.2.2]) (fun z=>H) (fun z=>z.1) (fun z=>Z97_l7 a0 a1 z.1 z.2.1 z.2.2=some r) ((a0.FFields.l.length+1),0,Z4.zero) hE Weak.toA ?_
  rintro ⟨n7,s11_8,y9_l0⟩ hE K7 hK7;try dsimp only at hE
  cases n7 with
  | zero=>cases hE
  | succ n7 =>
    rw [Z97_l7] at hE;refine seqR (S BI (nil ?_));refine seqK fun K11 hK11=>?_;refine cE hE (fun hc12 hE=>?_) (fun hc12 hE=>?_)
    ·try dsimp only at hc12
     have hf12:=of_decide_eq_true hc12;refine sk hK11 ?_;clear hK11 K11;refine seqK fun K13 hK13=>?_;refine block ?_;refine seqR ?_;obtain⟨x15,gx15,hE⟩:=bO hE;refine S (ix Z4.c s11_8 gx15) (S Ld ?_);refine Sl ?_;refine Sf ?_;refine nil ?_;refine freezeA 7 _ rfl (KA 1 (KA 4 (KA 9 (KA 10 (KA 11 Keeps.nil))))) ?_;refine seqR (S Fv (S Ld (S Mv (S BS (nil ?_)))));refine cE hE (fun hc17 hE=>?_) (fun hc17 hE=>?_)
     ·refine seqR (S Ld ?_);refine Sf ?_;refine S As (nil ?_);exact rt hE
     refine sk hK13 ?_;clear hK13 K13;refine region ?_;refine SI ?_;refine S Mv (nil ?_);exact hK7 _ (n7,(s11_8+1),y9_l0) Weak.toA hE (Nat.lt_succ_self _)
    refine AWp.exit ?_;exact hK2 _ y9_l0 Weak.toA hE
 rintro y3_l0 hE;try dsimp only at hE
 unfold Z97_j2 at hE;refine seqR (S BU ?_);refine Sf ?_;refine S As (nil ?_);exact rt hE
def Z106_j8  :Option Bool:=some true
def Z106_l12 (a0:(Sl Int)) (a1:(Sl Int)) :Nat->Nat->Option Bool
 | 0,_=>none
 | n12+1,s13_13=>bif (decide (((s13_13:Nat):Int)<((a0.l.length:Nat):Int))) then((a0.l[s13_13]?).bind fun x20=>(a1.l[s13_13]?).bind fun x21=>bif (!decide (x20=x21)) then(some false) else((Z106_l12 a0 a1 n12) (s13_13+1))) else(Z106_j8   )
def Z106 (a0:(Sl Int)) (a1:(Sl Int)):Option Bool:=bif (!decide (((a0.l.length:Nat):Int)=((a1.l.length:Nat):Int))) then(some false) else(Z106_l12 a0 a1 (a0.l.length+1) 0)
theorem Z106_walk {a0 a1:Sl Int}{w0 w1:Option Nat}{r:Bool}(hE:Z106 a0 a1=some r) (H:Heap) :ACalls Tryz.prog 86 [.d (Sl.d 1 (intE .i64) w0 a0),.d (Sl.d 1 (intE .i64) w1 a1)] H fun v h'=>v=.a (.d (.bool r))/\h'=H:=by
 unfold Z106 at hE;refine ACalls.oW 26 [.tmp 4] Tryz.call86 Tryz.func86 ?_;refine seqR (S As (nil ?_));refine seqK fun K2 hK2=>?_;refine seqR (S Mv ?_);refine sLen (f:=(intE .i64)) (s:=a0) (TK rfl) rfl rfl rfl rfl fun hL4=>?_;refine S Mv ?_;refine sLen (f:=(intE .i64)) (s:=a1) (TK rfl) rfl rfl rfl rfl fun hL5=>?_;refine S BI (nil ?_);refine cE hE (fun hc6 hE=>?_) (fun hc6 hE=>?_)
 ·refine seqR (S As (nil ?_));exact rt hE
 refine sk hK2 ?_;clear hK2 K2;refine seqJH KeepsT.nil (fun(z:Unit)=>[]) (fun z=>H) (fun z=>Z106_j8 =some r) ?_ ?_
 ·intro K8 hK8;refine seqR (S Mv ?_);refine sLen (f:=(intE .i64)) (s:=a0) (TK rfl) rfl rfl rfl rfl fun hL11=>?_;refine S Mv (nil ?_);refine block ?_;refine loopH (TA 0 (TA 1 (TA 12 KeepsT.nil))) (fun(z:Nat×Nat)=>[(13,.a (.d (.int .i64 ((z.2:Nat):Int))))]) (fun z=>H) (fun z=>z.1) (fun z=>Z106_l12 a0 a1 z.1 z.2=some r) ((a0.l.length+1),0) hE Weak.toA ?_;rintro ⟨n12,s13_13⟩ hE K12 hK12;try dsimp only at hE
  cases n12 with
  | zero=>cases hE
  | succ n12 =>
    rw [Z106_l12] at hE;refine seqR (S BI (nil ?_));refine seqK fun K15 hK15=>?_;refine cE hE (fun hc16 hE=>?_) (fun hc16 hE=>?_)
    ·try dsimp only at hc16
     have hf16:=of_decide_eq_true hc16;refine sk hK15 ?_;clear hK15 K15;refine seqK fun K17 hK17=>?_;refine block ?_;refine seqR (S Mv (S As (nil ?_)));refine AWp.seqD (Sd Mv (Sd Mv ?_));obtain⟨x20,gx20,hE⟩:=bO hE;refine Sd (ix (intE .i64) s13_13 gx20) ?_;refine Sd Ld (Sd Mv (Sd Mv ?_));obtain⟨x21,gx21,hE⟩:=bO hE;refine Sd (ix (intE .i64) s13_13 gx21) ?_;refine Sd Ld (Sd BI ?_);refine DOps.nil (by decide +kernel) ?_
     refine cE hE (fun hc22 hE=>?_) (fun hc22 hE=>?_)
     ·refine seqR (S As (nil ?_));exact rt hE
     refine sk hK17 ?_;clear hK17 K17;refine region ?_;refine SI ?_;refine S Mv (nil ?_);exact hK12 _ (n12,(s13_13+1)) Weak.toA hE (Nat.lt_succ_self _)
    refine AWp.exit ?_;exact hK8 _ () Weak.toA hE
 rintro _ hE;try dsimp only at hE
 unfold Z106_j8 at hE;refine seqR (S As (nil ?_));exact rt hE
def Z139 (a0:TRef) (a1:TRef):Option Bool:=guardO (((a0.FName==a1.FName))) (Z106 a0.FWraps a1.FWraps) false fun x3=>some (((a0.FName==a1.FName))&&x3)
theorem Z139_walk {a0 a1:TRef}{r:Bool}(hE:Z139 a0 a1=some r) (H:Heap) :ACalls Tryz.prog 49 [.agg (TRef.c a0),.agg (TRef.c a1)] H fun v h'=>v=.a (.d (.bool r))/\h'=H:=by
 unfold Z139 at hE;refine ACalls.oW 17 [.tmp 4] Tryz.call49 Tryz.func49 ?_;refine seqR (S BX (S BX (S As (nil ?_))));refine seqR (S Fv (S Ld (S Fv (S Ld (S BS (S Mv (G0 Fv ?_)))))));refine G1 11 rfl Ld ?_;refine G0 Fv ?_;refine G1 13 rfl Ld ?_;obtain⟨x3,gx3,hE⟩:=gO hE;refine Gc2 12 14 rfl rfl rfl rfl rfl rfl (fun hC=>Z106_walk (gx3 hC)) ?_;refine S PA (S As (nil ?_));exact rt hE
def Z99_j2  (y3_l0:Z5):Option (Z5×Bool):=some ((Z5.mk ([]:Bs) TRef.zero false Z7.zero (Sl.nil:Sl TDir)),false)
def Z99_l7 (a0:(Sl Z5)) (a1:Bs) :Nat->Nat->Z5->Option (Z5×Bool)
 | 0,_,_=>none
 | n7+1,s10_8,y9_l0=>bif (decide (((s10_8:Nat):Int)<((a0.l.length:Nat):Int))) then((a0.l[s10_8]?).bind fun x15=>bif ((x15.FName==a1)) then(some (x15,true)) else((Z99_l7 a0 a1 n7) (s10_8+1) y9_l0)) else(Z99_j2   y9_l0)
def Z99 (a0:(Sl Z5)) (a1:Bs):Option (Z5×Bool):=Z99_l7 a0 a1 (a0.l.length+1) 0 Z5.zero
theorem Z99_walk {a0:Sl Z5}{a1:Bs}{w0:Option Nat}{r:Z5×Bool}(hE:Z99 a0 a1=some r) (H:Heap) :ACalls Tryz.prog 51 [.d (Sl.d 10 Z5.c w0 a0),.d (.str a1)] H fun v h'=>v=.tup [.agg (Z5.c r.1),.d (.bool r.2)]/\h'=H:=by
 unfold Z99 at hE;refine ACalls.oW 21 [.cell 4 84,.tmp 5] Tryz.call51 Tryz.func51 ?_;refine seqR ?_;refine Sl ?_;refine S As (nil ?_);refine seqJ (TA 4 KeepsT.nil) (fun(z:Z5)=>[]) (fun z=>[Z5.c z]) (fun z=>H) (fun z=>Z99_j2 z=some r) ?_ ?_
 ·intro K2 hK2;refine seqR (S Mv ?_);refine sLen (f:=Z5.c) (s:=a0) (TK rfl) rfl rfl rfl rfl fun hL6=>?_;refine S Mv (nil ?_);refine block ?_;refine loopO (TA 1 (TA 4 (TA 8 (TA 9 KeepsT.nil)))) (fun(z:Nat×Nat×Z5)=>[(10,.a (.d (.int .i64 ((z.2.1:Nat):Int))))]) (fun z=>[Z5.c z.2.2]) (fun z=>H) (fun z=>z.1) (fun z=>Z99_l7 a0 a1 z.1 z.2.1 z.2.2=some r) ((a0.l.length+1),0,Z5.zero) hE Weak.toA ?_;rintro ⟨n7,s10_8,y9_l0⟩ hE K7 hK7
  try dsimp only at hE
  cases n7 with
  | zero=>cases hE
  | succ n7 =>
    rw [Z99_l7] at hE;refine seqR (S BI (nil ?_));refine seqK fun K11 hK11=>?_;refine cE hE (fun hc12 hE=>?_) (fun hc12 hE=>?_)
    ·try dsimp only at hc12
     have hf12:=of_decide_eq_true hc12;refine sk hK11 ?_;clear hK11 K11;refine seqK fun K13 hK13=>?_;refine block ?_;refine seqR ?_;obtain⟨x15,gx15,hE⟩:=bO hE;refine S (ix Z5.c s10_8 gx15) (S Ld ?_);refine Sl ?_;refine Sf ?_;refine nil ?_;refine freezeA 7 _ rfl (KA 1 (KA 4 (KA 8 (KA 9 (KA 10 Keeps.nil))))) ?_;refine seqR (S Fv (S Ld (S Mv (S BS (nil ?_)))));refine cE hE (fun hc17 hE=>?_) (fun hc17 hE=>?_)
     ·refine seqR (S Ld ?_);refine Sf ?_;refine S As (nil ?_);exact rt hE
     refine sk hK13 ?_;clear hK13 K13;refine region ?_;refine SI ?_;refine S Mv (nil ?_);exact hK7 _ (n7,(s10_8+1),y9_l0) Weak.toA hE (Nat.lt_succ_self _)
    refine AWp.exit ?_;exact hK2 _ y9_l0 Weak.toA hE
 rintro y3_l0 hE;try dsimp only at hE
 unfold Z99_j2 at hE;refine seqR (S BU ?_);refine Sf ?_;refine S As (nil ?_);exact rt hE
def Tryz.lay130_ren:Go.Shelf.Ren:=⟨fun|240=>130|276=>156|n=>n,fun|0=>0|4=>4|9=>9|20=>20|70=>137|72=>140|164=>185|37=>138|n=>n,fun|n=>n⟩
theorem Tryz.lay130:Go.Proofs.Lays.n240 Tryz.prog Tryz.lay130_ren:={
 mixed:=by kernel_rfl
 f240:=Tryz.func130.trans (congrArg some (by kernel_rfl))
 f276:=Tryz.func156.trans (congrArg some (by kernel_rfl))
 t0:=Tryz.underlying0
 a0:=Tryz.isAgg0
 z0:=Tryz.sizeOf0
 v0:=Tryz.zeroValue0
 t4:=Tryz.underlying4
 a4:=Tryz.isAgg4
 z4:=Tryz.sizeOf4
 v4:=Tryz.zeroValue4
 t9:=Tryz.underlying9
 a9:=Tryz.isAgg9
 z9:=Tryz.sizeOf9
 v9:=Tryz.zeroValue9
 t20:=Tryz.underlying20
 a20:=Tryz.isAgg20
 z20:=Tryz.sizeOf20
 v20:=Tryz.zeroValue20
 t70:=Tryz.underlying137
 a70:=Tryz.isAgg137
 z70:=Tryz.sizeOf137
 v70:=Tryz.zeroValue137
 t72:=Tryz.underlying140
 a72:=Tryz.isAgg140
 z72:=Tryz.sizeOf140
 v72:=Tryz.zeroValue140
 t164:=Tryz.underlying185
 a164:=Tryz.isAgg185
 z164:=Tryz.sizeOf185
 v164:=Tryz.zeroValue185 }
def Z113 (a0:Strings_Builder):Option Strings_Builder:=some ⟨true,a0.Fbuf⟩
def Z113_q (a0:Strings_Builder):Option Strings_Builder:=some ⟨true,a0.Fbuf⟩
theorem Z113_eq (a0:Strings_Builder):Z113 a0=Z113_q a0:=rfl
theorem Z113_walk {a0:Strings_Builder}{c0 c0_1:Nat}{r:Strings_Builder}(hE:Z113 a0=some r) (H:Heap) (hc0:H c0=some (.tcells 140 (Strings_Builder.cg c0 (some c0_1) a0))) (ht0_1:H c0_1=some (.tok 1 a0.Fbuf.l.length (some 5))):ACalls Tryz.prog 130 [.d (.ptr c0 0)] H fun v h'=>v=.tup []/\h'=((H.set c0_1 (some (.tok 1 r.Fbuf.l.length (some 5)))).set c0 (some (.tcells 140 (Strings_Builder.cg c0 (some c0_1) r)))):=by
 obtain rfl:=Option.some.inj hE;refine(bld_check (T:=140) Tryz.lay130 ⟨by kernel_rfl,by kernel_rfl⟩ rfl rfl hc0).mono fun v h' e=>⟨e.1, ?_⟩;rw [e.2];show _=Heap.set (Heap.set H c0_1 _) _ _;rw [Heap.set_self H c0_1 _ ht0_1]
end Go.Proofs
