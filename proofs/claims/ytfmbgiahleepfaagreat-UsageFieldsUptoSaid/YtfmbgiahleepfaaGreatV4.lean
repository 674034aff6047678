import Derived.Test.YtfmbgiahleepfaaGreatV3
set_option maxRecDepth 100000
set_option maxHeartbeats 2000000
set_option linter.unusedVariables false
set_option linter.unusedSimpArgs false
namespace Go.Proofs
open Go Go.Ab
open AOps Cert AWp Keeps KeepsT
variable {lou:Lou}
def Z95 (a0:(Sl Int)):Option (Sl Int):=bif a0.nl then(some (Sl.nil:Sl Int)) else((appC 8 (⟨false,[]⟩:Sl Int) a0).bind fun x7=>some x7)
theorem Z95_walk {a0:Sl Int}{w0:Option Nat}{r:Sl Int}(hE:Z95 a0=some r) (H:Heap) :ACalls Tryz.prog 69 [.d (Sl.d 1 (intE .i64) w0 a0)] H fun v h'=>v=.a (.d (Sl.d 1 (intE .i64) none r))/\h'=H:=by
 unfold Z95 at hE;refine ACalls.oW 8 [.tmp 2] Tryz.call69 Tryz.func69 ?_;refine seqR ?_;refine s0 (assignNil (k':=1) rfl) rfl ?_;refine nil ?_;refine seqK fun K2 hK2=>?_;refine seqR (S Mv ?_);refine s0 (eqNil (TK rfl) rfl rfl) rfl ?_;refine nil ?_;refine cE hE (fun hc4 hE=>?_) (fun hc4 hE=>?_)
 ·refine seqR ?_;refine s0 (assignNil (k':=1) rfl) rfl ?_;refine nil ?_;exact rt hE
 refine sk hK2 ?_;clear hK2 K2;refine seqR ?_;refine s0 (buildSliceF (TK rfl) rfl (TK rfl) rfl rfl rfl rfl rfl rfl) rfl ?_;refine S Mv ?_;obtain⟨x7,gx7,hE⟩:=bO hE;refine s0 (appFM (f:=(intE .i64)) (TK rfl) rfl (TK rfl) (TK rfl) ⟨_,rfl⟩ rfl rfl (by decide) rfl rfl rfl (by intro q h; cases h<;>decide) rfl rfl gx7) rfl ?_;refine S As (nil ?_);exact rt hE
def Z116 (a0:TRef):Option Bool:=guardO ((decide ((0:Int)<((a0.FWraps.l.length:Nat):Int)))) (a0.FWraps.l[0]?) (0:Int) fun x4=>some ((decide ((0:Int)<((a0.FWraps.l.length:Nat):Int)))&&(decide (x4=(1:Int))))
theorem Z116_walk {a0:TRef}{r:Bool}(hE:Z116 a0=some r) (H:Heap) :ACalls Tryz.prog 94 [.agg (TRef.c a0)] H fun v h'=>v=.a (.d (.bool r))/\h'=H:=by
 unfold Z116 at hE;refine ACalls.oW 14 [.tmp 2] Tryz.call94 Tryz.func94 ?_;refine seqR (S BX (S As (nil ?_)));refine seqR (S Fv (S Ld ?_));refine sLen (f:=(intE .i64)) (s:=a0.FWraps) (TK rfl) rfl rfl rfl rfl fun hL3=>?_;refine S BI (S Mv (G0 Fv ?_));refine G1 8 rfl Ld ?_;obtain⟨x4,gx4,hE⟩:=gO hE;refine gC rfl rfl (fun hC=>ungdA (k:=9) rfl (idxMn (f:=(intE .i64)) (n:=0) (TK rfl) rfl (TK rfl) rfl rfl rfl (gx4 hC))) rfl ?_
 refine G1 10 rfl Ld ?_;refine G1 11 rfl BI ?_;refine S PA (S As (nil ?_));exact rt hE
def Z118 (a0:TRef):Option TRef:=(Z116 a0).bind fun x4=>bif x4 then((Z95 a0.FWraps).bind fun x7=>some (TRef.mk a0.FName x7)) else((appC 8 (⟨false,[(1:Int)]⟩:Sl Int) a0.FWraps).bind fun x9=>some (TRef.mk a0.FName x9))
theorem Z118_walk {a0 r:TRef}(hE:Z118 a0=some r) (H:Heap) :ACalls Tryz.prog 67 [.agg (TRef.c a0)] H fun v h'=>v=.a (.agg (TRef.c r))/\h'=H:=by
 unfold Z118 at hE;refine ACalls.oW 18 [.cell 2 92] Tryz.call67 Tryz.func67 ?_;refine seqR (S BX ?_);refine Sl ?_;refine nil ?_;refine seqK fun K2 hK2=>?_;refine seqR (S Ld ?_);obtain⟨x4,gx4,hE⟩:=bO hE;refine Sc rfl rfl (Z116_walk gx4) ?_;refine nil ?_;refine cE hE (fun hc5 hE=>?_) (fun hc5 hE=>?_)
 ·refine AWp.seqD (Sd Fv (Sd Ld (Sd Fv (Sd Ld ?_))));obtain⟨x7,gx7,hE⟩:=bO hE;refine Scd rfl rfl (Z95_walk gx7) ?_;refine Sd BU ?_;refine DOps.sLn (storeLFA (TK rfl) rfl rfl rfl rfl rfl) ?_;refine DOps.nil (by decide +kernel) ?_;exact rt hE
 refine sk hK2 ?_;clear hK2 K2;refine AWp.seqD (Sd Fv (Sd Ld ?_));refine DOps.s0 (buildSliceF (TK rfl) rfl (TK rfl) rfl rfl rfl rfl rfl rfl) rfl ?_;refine Sd Fv (Sd Ld ?_);obtain⟨x9,gx9,hE⟩:=bO hE;refine DOps.s0 (appFM (f:=(intE .i64)) (TK rfl) rfl (TK rfl) (TK rfl) ⟨_,rfl⟩ rfl rfl (by decide) rfl rfl rfl (by intro q h; cases h<;>decide) rfl rfl gx9) rfl ?_;refine Sd BU ?_;refine DOps.sLn (storeLFA (TK rfl) rfl rfl rfl rfl rfl) ?_
 refine DOps.nil (by decide +kernel) ?_;exact rt hE
def Z117 (a0:Bs):Option TRef:=some (TRef.mk a0 (Sl.nil:Sl Int))
theorem Z117_walk {a0:Bs}{r:TRef}(hE:Z117 a0=some r) (H:Heap) :ACalls Tryz.prog 68 [.d (.str a0)] H fun v h'=>v=.a (.agg (TRef.c r))/\h'=H:=by
 unfold Z117 at hE;refine ACalls.oW 5 [.cell 2 92] Tryz.call68 Tryz.func68 ?_;refine seqR ?_;refine Sl ?_;refine nil ?_;refine seqR (S Mv (S BU ?_));refine Sf ?_;refine nil ?_;exact rt hE
def Z29 (a0:Bs) (a1:Bs):Option Z6:=(Z117 a1).bind fun x3=>(Z118 x3).bind fun x4=>some (Z6.mk a0 x4 false Z9.zero (Sl.nil:Sl TDir))
theorem Z29_walk {a0 a1:Bs}{r:Z6}(hE:Z29 a0 a1=some r) (H:Heap) :ACalls Tryz.prog 111 [.d (.str a0),.d (.str a1)] H fun v h'=>v=.a (.agg (Z6.c r))/\h'=H:=by
 unfold Z29 at hE;refine ACalls.oW 10 [.cell 4 123] Tryz.call111 Tryz.func111 ?_;refine seqR ?_;refine Sl ?_;refine nil ?_;refine seqR (S Mv (S Mv ?_));obtain⟨x3,gx3,hE⟩:=bO hE;refine Sc rfl rfl (Z117_walk gx3) ?_;obtain⟨x4,gx4,hE⟩:=bO hE;refine Sc rfl rfl (Z118_walk gx4) ?_;refine S BU ?_;refine Sf ?_;refine nil ?_;exact rt hE
def Z20 (a0:Bs) (a1:Bool):Option (Sl Z6):=bif (((a0==([115,107,105,112]:Bs)))||((a0==([105,110,99,108,117,100,101]:Bs)))) then((Z29 ([105,102]:Bs) ([66,111,111,108,101,97,110]:Bs)).bind fun x6=>some (⟨false,[x6]⟩:Sl Z6)) else(bif (((a0==([100,101,102,101,114]:Bs)))&&(!a1)) then((Z29 ([108,97,98,101,108]:Bs) ([83,116,114,105,110,103]:Bs)).bind fun x10=>some (⟨false,[x10]⟩:Sl Z6)) else(bif (((a0==([115,116,114,101,97,109]:Bs)))&&a1) then((Z29 ([108,97,98,101,108]:Bs) ([83,116,114,105,110,103]:Bs)).bind fun x14=>(Z29 ([105,110,105,116,105,97,108,67,111,117,110,116]:Bs) ([73,110,116]:Bs)).bind fun x15=>some (⟨false,[x14,x15]⟩:Sl Z6)) else(some (Sl.nil:Sl Z6))))
theorem Z20_walk {a0:Bs}{a1:Bool}{r:Sl Z6}(hE:Z20 a0 a1=some r) (H:Heap) :ACalls Tryz.prog 87 [.d (.str a0),.d (.bool a1)] H fun v h'=>v=.a (.d (Sl.d 10 Z6.c none r))/\h'=H:=by
 unfold Z20 at hE;refine ACalls.oW 32 [.tmp 4] Tryz.call87 Tryz.func87 ?_;refine seqR ?_;refine s0 (assignNil (k':=10) rfl) rfl ?_;refine nil ?_;refine seqK fun K2 hK2=>?_;refine block ?_;refine seqR (S Mv (S BS (S Mv (G0 Mv ?_))));refine G1 9 rfl BS ?_;refine S PO (S As (nil ?_));refine cE hE (fun hc4 hE=>?_) (fun hc4 hE=>?_)
 ·refine seqR ?_;obtain⟨x6,gx6,hE⟩:=bO hE;refine Sc rfl rfl (Z29_walk gx6) ?_;refine S BV (S As (nil ?_));exact rt hE
 refine seqR (S Mv (S BS (S Mv (G0 Mv ?_))));refine G1 18 rfl NB ?_;refine S PA (S As (nil ?_));refine cE hE (fun hc8 hE=>?_) (fun hc8 hE=>?_)
 ·refine seqR ?_;obtain⟨x10,gx10,hE⟩:=bO hE;refine Sc rfl rfl (Z29_walk gx10) ?_;refine S BV (S As (nil ?_));exact rt hE
 refine seqR (S Mv (S BS (S Mv (G0 Mv (S PA (S As (nil ?_)))))));refine cE hE (fun hc12 hE=>?_) (fun hc12 hE=>?_)
 ·refine seqR ?_;obtain⟨x14,gx14,hE⟩:=bO hE;refine Sc rfl rfl (Z29_walk gx14) ?_;obtain⟨x15,gx15,hE⟩:=bO hE;refine Sc rfl rfl (Z29_walk gx15) ?_;refine S BV (S As (nil ?_));exact rt hE
 refine sk hK2 ?_;clear hK2 K2;refine seqR ?_;refine s0 (assignNil (k':=10) rfl) rfl ?_;refine nil ?_;exact rt hE
def Z119_j3 (a0:TRef)  (s3_4:(Sl Int)):Option TRef:=(Z95 s3_4).bind fun x6=>some (TRef.mk a0.FName x6)
def Z119 (a0:TRef):Option TRef:=(Z116 a0).bind fun x8=>bif x8 then((partC a0.FWraps (some (1:Int)) none).bind fun x10=>Z119_j3 a0  x10) else(Z119_j3 a0  a0.FWraps)
theorem Z119_walk {a0 r:TRef}(hE:Z119 a0=some r) (H:Heap) :ACalls Tryz.prog 99 [.agg (TRef.c a0)] H fun v h'=>v=.a (.agg (TRef.c r))/\h'=H:=by
 unfold Z119 at hE;refine ACalls.oW 15 [.cell 2 92] Tryz.call99 Tryz.func99 ?_;refine seqR (S BX ?_);refine Sl ?_;refine nil ?_;refine seqR (S Fv (S Ld (S As (nil ?_))));refine seqJH (TA 1 (TA 2 KeepsT.nil)) (fun(z:(Sl Int))=>[(3,.a (.d (Sl.d 1 (intE .i64) none z)))]) (fun z=>H) (fun z=>Z119_j3 a0 z=some r) ?_ ?_
 ·intro K3 hK3;refine seqR (S Ld ?_);obtain⟨x8,gx8,hE⟩:=bO hE;refine Sc rfl rfl (Z116_walk gx8) ?_;refine nil ?_;refine cE hE (fun hc9 hE=>?_) (fun hc9 hE=>?_)
  ·refine region ?_;refine S Mv ?_;obtain⟨x10,gx10,hE⟩:=bO hE;refine s0 (partM (f:=(intE .i64)) (l:=(some (1:Int))) (r:=none) (TK rfl) rfl (TK rfl) rfl rfl rfl trivial gx10) rfl ?_;refine S As (nil ?_);exact hK3 _ x10 Weak.toA hE
  refine AWp.skip ?_;exact hK3 _ a0.FWraps Weak.toA hE
 rintro s3_4 hE;try dsimp only at hE
 unfold Z119_j3 at hE;refine AWp.seqD (Sd Fv (Sd Ld (Sd Mv ?_)));obtain⟨x6,gx6,hE⟩:=bO hE;refine Scd rfl rfl (Z95_walk gx6) ?_;refine Sd BU ?_;refine DOps.sLn (storeLFA (TK rfl) rfl rfl rfl rfl rfl) ?_;refine DOps.nil (by decide +kernel) ?_;exact rt hE
def Z115 (a0:TRef):Option Bool:=(Z119 a0).bind fun x3=>guardO ((decide ((0:Int)<((x3.FWraps.l.length:Nat):Int)))) (x3.FWraps.l[0]?) (0:Int) fun x6=>some ((decide ((0:Int)<((x3.FWraps.l.length:Nat):Int)))&&(decide (x6=(2:Int))))
theorem Z115_walk {a0:TRef}{r:Bool}(hE:Z115 a0=some r) (H:Heap) :ACalls Tryz.prog 88 [.agg (TRef.c a0)] H fun v h'=>v=.a (.d (.bool r))/\h'=H:=by
 unfold Z115 at hE;refine ACalls.oW 16 [.tmp 2] Tryz.call88 Tryz.func88 ?_;refine seqR ?_;refine sL (boxL rfl (by repeat (first|exact Snoc.nil|apply Snoc.cons))) rfl ?_;refine S As (nil ?_);refine seqR (S LL ?_);obtain⟨x3,gx3,hE⟩:=bO hE;refine Sc rfl rfl (Z119_walk gx3) ?_;refine Sf ?_;refine nil ?_;refine seqR (S FL (S LL ?_));refine sLen (f:=(intE .i64)) (s:=x3.FWraps) (TK rfl) rfl rfl rfl rfl fun hL5=>?_
 refine S BI (S Mv (G0 FL ?_));refine gC rfl rfl (fun hC=>ungdLA (k:=10) rfl (loadL (TK rfl) rfl rfl rfl rfl)) rfl ?_;obtain⟨x6,gx6,hE⟩:=gO hE;refine gC rfl rfl (fun hC=>ungdA (k:=11) rfl (idxMn (f:=(intE .i64)) (n:=0) (TK rfl) rfl (TK rfl) rfl rfl rfl (gx6 hC))) rfl ?_;refine G1 12 rfl Ld ?_;refine G1 13 rfl BI ?_;refine S PA (S As (nil ?_));exact rt hE
def Z105_j2  :Option Int:=some (-1:Int)
def Z105_l6 (a0:(Sl TDir)) (a1:(TDir->Option Bool)) :Nat->Nat->Option Int
 | 0,_=>none
 | n6+1,s8_7=>bif (decide (((s8_7:Nat):Int)<((a0.l.length:Nat):Int))) then((a0.l[s8_7]?).bind fun x14=>(a1 x14).bind fun x15=>bif x15 then(some ((s8_7:Nat):Int)) else((Z105_l6 a0 a1 n6) (s8_7+1))) else(Z105_j2   )
def Z105 (a0:(Sl TDir)) (a1:(TDir->Option Bool)):Option Int:=Z105_l6 a0 a1 (a0.l.length+1) 0
theorem Z105_walk {a0:Sl TDir}{a1:TDir->Option Bool}{w0:Option Nat}{cl1:List D}{k1:Nat}{r:Int}(hE:Z105 a0 a1=some r) (H:Heap) (hf1:∀x0 r,a1 x0=some r->∀H,ACalls Tryz.prog k1 ([.agg (TDir.c x0)]++cl1.map A.d) H fun v h'=>v=.a (.d (.bool r))/\h'=H):ACalls Tryz.prog 112 [.d (Sl.d 2 TDir.c w0 a0),.d (.func k1 cl1)] H fun v h'=>v=.a (.d (.int .i64 r))/\h'=H:=by
 unfold Z105 at hE;refine ACalls.oW 19 [.tmp 4] Tryz.call112 Tryz.func112 ?_;refine seqR (S As (nil ?_));refine seqJH KeepsT.nil (fun(z:Unit)=>[]) (fun z=>H) (fun z=>Z105_j2 =some r) ?_ ?_
 ·intro K2 hK2;refine seqR (S Mv ?_);refine sLen (f:=TDir.c) (s:=a0) (TK rfl) rfl rfl rfl rfl fun hL5=>?_;refine S Mv (nil ?_);refine block ?_;refine loopH (TA 0 (TA 1 (TA 7 KeepsT.nil))) (fun(z:Nat×Nat)=>[(8,.a (.d (.int .i64 ((z.2:Nat):Int))))]) (fun z=>H) (fun z=>z.1) (fun z=>Z105_l6 a0 a1 z.1 z.2=some r) ((a0.l.length+1),0) hE Weak.toA ?_;rintro ⟨n6,s8_7⟩ hE K6 hK6;try dsimp only at hE
  cases n6 with
  | zero=>cases hE
  | succ n6 =>
    rw [Z105_l6] at hE;refine seqR (S BI (nil ?_));refine seqK fun K9 hK9=>?_;refine cE hE (fun hc10 hE=>?_) (fun hc10 hE=>?_)
    ·try dsimp only at hc10
     have hf10:=of_decide_eq_true hc10;refine sk hK9 ?_;clear hK9 K9;refine seqK fun K11 hK11=>?_;refine block ?_;refine seqR (S Mv (S As (nil ?_)));refine seqR (S Mv (S Mv (S Mv ?_)));obtain⟨x14,gx14,hE⟩:=bO hE;refine S (ix TDir.c s8_7 gx14) (S Ld ?_);obtain⟨x15,gx15,hE⟩:=bO hE;refine s0 (callP rfl rfl (hf1 _ _ gx15)) rfl ?_;refine nil ?_;refine cE hE (fun hc16 hE=>?_) (fun hc16 hE=>?_)
     ·refine seqR (S Mv (S As (nil ?_)));exact rt hE
     refine sk hK11 ?_;clear hK11 K11;refine region ?_;refine SI ?_;refine S Mv (nil ?_);exact hK6 _ (n6,(s8_7+1)) Weak.toA hE (Nat.lt_succ_self _)
    refine AWp.exit ?_;exact hK2 _ () Weak.toA hE
 rintro _ hE;try dsimp only at hE
 unfold Z105_j2 at hE;refine seqR (S As (nil ?_));exact rt hE
def Z98 (a0:(Sl TDir)) (a1:(TDir->Option Bool)):Option Bool:=(Z105 a0 a1).bind fun x3=>some (decide ((0:Int)<=x3))
theorem Z98_walk {a0:Sl TDir}{a1:TDir->Option Bool}{w0:Option Nat}{cl1:List D}{k1:Nat}{r:Bool}(hE:Z98 a0 a1=some r) (H:Heap) (hf1:∀x0 r,a1 x0=some r->∀H,ACalls Tryz.prog k1 ([.agg (TDir.c x0)]++cl1.map A.d) H fun v h'=>v=.a (.d (.bool r))/\h'=H):ACalls Tryz.prog 89 [.d (Sl.d 2 TDir.c w0 a0),.d (.func k1 cl1)] H fun v h'=>v=.a (.d (.bool r))/\h'=H:=by
 unfold Z98 at hE;refine ACalls.oW 9 [.tmp 4] Tryz.call89 Tryz.func89 ?_;refine seqR (S As (nil ?_));refine seqR (S Mv (S Mv ?_));obtain⟨x3,gx3,hE⟩:=bO hE;refine s0 (callP rfl rfl (fun H=>Z105_walk gx3 H hf1)) rfl ?_;refine S BI (S As (nil ?_));exact rt hE
def Z23 (a0:TDir) (a1:TDir):Option Bool:=some ((a0.FName==a1.FName))
theorem Z23_walk {a0 a1:TDir}{r:Bool}(hE:Z23 a0 a1=some r) (H:Heap) :ACalls Tryz.prog 90 [.agg (TDir.c a0),.d (.view (TDir.c a1))] H fun v h'=>v=.a (.d (.bool r))/\h'=H:=by
 unfold Z23 at hE;refine ACalls.oW 9 [.tmp 3] Tryz.call90 Tryz.func90 ?_;refine seqR (S BX (S As (nil ?_)));refine seqR (S Fv (S Ld (S Fv (S Ld (S BS (S As (nil ?_)))))));exact rt hE
def Z79_j2  (y3_l0:Z6):Option (Z6×Bool):=some ((Z6.mk ([]:Bs) TRef.zero false Z9.zero (Sl.nil:Sl TDir)),false)
def Z79_l7 (a0:(Sl Z6)) (a1:Bs) :Nat->Nat->Z6->Option (Z6×Bool)
 | 0,_,_=>none
 | n7+1,s10_8,y9_l0=>bif (decide (((s10_8:Nat):Int)<((a0.l.length:Nat):Int))) then((a0.l[s10_8]?).bind fun x15=>bif ((x15.FName==a1)) then(some (x15,true)) else((Z79_l7 a0 a1 n7) (s10_8+1) y9_l0)) else(Z79_j2   y9_l0)
def Z79 (a0:(Sl Z6)) (a1:Bs):Option (Z6×Bool):=Z79_l7 a0 a1 (a0.l.length+1) 0 Z6.zero
theorem Z79_walk {a0:Sl Z6}{a1:Bs}{w0:Option Nat}{r:Z6×Bool}(hE:Z79 a0 a1=some r) (H:Heap) :ACalls Tryz.prog 66 [.d (Sl.d 10 Z6.c w0 a0),.d (.str a1)] H fun v h'=>v=.tup [.agg (Z6.c r.1),.d (.bool r.2)]/\h'=H:=by
 unfold Z79 at hE;refine ACalls.oW 21 [.cell 4 123,.tmp 5] Tryz.call66 Tryz.func66 ?_;refine seqR ?_;refine Sl ?_;refine S As (nil ?_);refine seqJ (TA 4 KeepsT.nil) (fun(z:Z6)=>[]) (fun z=>[Z6.c z]) (fun z=>H) (fun z=>Z79_j2 z=some r) ?_ ?_
 ·intro K2 hK2;refine seqR (S Mv ?_);refine sLen (f:=Z6.c) (s:=a0) (TK rfl) rfl rfl rfl rfl fun hL6=>?_;refine S Mv (nil ?_);refine block ?_;refine loopO (TA 1 (TA 4 (TA 8 (TA 9 KeepsT.nil)))) (fun(z:Nat×Nat×Z6)=>[(10,.a (.d (.int .i64 ((z.2.1:Nat):Int))))]) (fun z=>[Z6.c z.2.2]) (fun z=>H) (fun z=>z.1) (fun z=>Z79_l7 a0 a1 z.1 z.2.1 z.2.2=some r) ((a0.l.length+1),0,Z6.zero) hE Weak.toA ?_;rintro ⟨n7,s10_8,y9_l0⟩ hE K7 hK7
  try dsimp only at hE
  cases n7 with
  | zero=>cases hE
  | succ n7 =>
    rw [Z79_l7] at hE;refine seqR (S BI (nil ?_));refine seqK fun K11 hK11=>?_;refine cE hE (fun hc12 hE=>?_) (fun hc12 hE=>?_)
    ·try dsimp only at hc12
     have hf12:=of_decide_eq_true hc12;refine sk hK11 ?_;clear hK11 K11;refine seqK fun K13 hK13=>?_;refine block ?_;refine seqR ?_;obtain⟨x15,gx15,hE⟩:=bO hE;refine S (ix Z6.c s10_8 gx15) (S Ld ?_);refine Sl ?_;refine Sf ?_;refine nil ?_;refine freezeA 7 _ rfl (KA 1 (KA 4 (KA 8 (KA 9 (KA 10 Keeps.nil))))) ?_;refine seqR (S Fv (S Ld (S Mv (S BS (nil ?_)))));refine cE hE (fun hc17 hE=>?_) (fun hc17 hE=>?_)
     ·refine seqR (S Ld ?_);refine Sf ?_;refine S As (nil ?_);exact rt hE
     refine sk hK13 ?_;clear hK13 K13;refine region ?_;refine SI ?_;refine S Mv (nil ?_);exact hK7 _ (n7,(s10_8+1),y9_l0) Weak.toA hE (Nat.lt_succ_self _)
    refine AWp.exit ?_;exact hK2 _ y9_l0 Weak.toA hE
 rintro y3_l0 hE;try dsimp only at hE
 unfold Z79_j2 at hE;refine seqR (S BU ?_);refine Sf ?_;refine S As (nil ?_);exact rt hE
def Z28_j2  (y3_l0:Z9):Option (Z9×Bool):=some ((Z9.mk (0:Int) (0:Int) ([]:Bs) true ([]) (Sl.nil:Sl Bs)),false)
def Z28_l7 (a0:(Sl TArg)) (a1:Bs) :Nat->Nat->Z9->Option (Z9×Bool)
 | 0,_,_=>none
 | n7+1,s10_8,y9_l0=>bif (decide (((s10_8:Nat):Int)<((a0.l.length:Nat):Int))) then((a0.l[s10_8]?).bind fun x15=>bif ((x15.FName==a1)) then(some (x15.FValue,true)) else((Z28_l7 a0 a1 n7) (s10_8+1) y9_l0)) else(Z28_j2   y9_l0)
def Z28 (a0:(Sl TArg)) (a1:Bs):Option (Z9×Bool):=Z28_l7 a0 a1 (a0.l.length+1) 0 Z9.zero
theorem Z28_walk {a0:Sl TArg}{a1:Bs}{w0:Option Nat}{r:Z9×Bool}(hE:Z28 a0 a1=some r) (H:Heap) :ACalls Tryz.prog 92 [.d (Sl.d 6 TArg.c w0 a0),.d (.str a1)] H fun v h'=>v=.tup [.agg (Z9.c r.1),.d (.bool r.2)]/\h'=H:=by
 unfold Z28 at hE;refine ACalls.oW 22 [.cell 4 95,.tmp 5] Tryz.call92 Tryz.func92 ?_;refine seqR ?_;refine Sl ?_;refine S As (nil ?_);refine seqJ (TA 4 KeepsT.nil) (fun(z:Z9)=>[]) (fun z=>[Z9.c z]) (fun z=>H) (fun z=>Z28_j2 z=some r) ?_ ?_
 ·intro K2 hK2;refine seqR (S Mv ?_);refine sLen (f:=TArg.c) (s:=a0) (TK rfl) rfl rfl rfl rfl fun hL6=>?_;refine S Mv (nil ?_);refine block ?_;refine loopO (TA 1 (TA 4 (TA 8 (TA 9 KeepsT.nil)))) (fun(z:Nat×Nat×Z9)=>[(10,.a (.d (.int .i64 ((z.2.1:Nat):Int))))]) (fun z=>[Z9.c z.2.2]) (fun z=>H) (fun z=>z.1) (fun z=>Z28_l7 a0 a1 z.1 z.2.1 z.2.2=some r) ((a0.l.length+1),0,Z9.zero) hE Weak.toA ?_;rintro ⟨n7,s10_8,y9_l0⟩ hE K7 hK7
  try dsimp only at hE
  cases n7 with
  | zero=>cases hE
  | succ n7 =>
    rw [Z28_l7] at hE;refine seqR (S BI (nil ?_));refine seqK fun K11 hK11=>?_;refine cE hE (fun hc12 hE=>?_) (fun hc12 hE=>?_)
    ·try dsimp only at hc12
     have hf12:=of_decide_eq_true hc12;refine sk hK11 ?_;clear hK11 K11;refine seqK fun K13 hK13=>?_;refine block ?_;refine seqR ?_;obtain⟨x15,gx15,hE⟩:=bO hE;refine S (ix TArg.c s10_8 gx15) (S Ld ?_);refine Sl ?_;refine Sf ?_;refine nil ?_;refine freezeA 7 _ rfl (KA 1 (KA 4 (KA 8 (KA 9 (KA 10 Keeps.nil))))) ?_;refine seqR (S Fv (S Ld (S Mv (S BS (nil ?_)))));refine cE hE (fun hc17 hE=>?_) (fun hc17 hE=>?_)
     ·refine seqR (S Fv (S Ld ?_));refine Sf ?_;refine S As (nil ?_);exact rt hE
     refine sk hK13 ?_;clear hK13 K13;refine region ?_;refine SI ?_;refine S Mv (nil ?_);exact hK7 _ (n7,(s10_8+1),y9_l0) Weak.toA hE (Nat.lt_succ_self _)
    refine AWp.exit ?_;exact hK2 _ y9_l0 Weak.toA hE
 rintro y3_l0 hE;try dsimp only at hE
 unfold Z28_j2 at hE;refine seqR (S BU ?_);refine Sf ?_;refine S As (nil ?_);exact rt hE
def Z114 (a0:TRef):Option (TRef×Bool):=(Z115 a0).bind fun x4=>bif (!x4) then(some ((TRef.mk ([]:Bs) (Sl.nil:Sl Int)),false)) else((Z119 a0).bind fun x8=>(partC x8.FWraps (some (1:Int)) none).bind fun x10=>some ((TRef.mk x8.FName x10),true))
theorem Z114_walk {a0:TRef}{r:TRef×Bool}(hE:Z114 a0=some r) (H:Heap) :ACalls Tryz.prog 65 [.agg (TRef.c a0)] H fun v h'=>v=.tup [.agg (TRef.c r.1),.d (.bool r.2)]/\h'=H:=by
 unfold Z114 at hE;refine ACalls.oW 15 [.cell 2 92,.tmp 3] Tryz.call65 Tryz.func65 ?_;refine seqR ?_;refine sL (boxL rfl (by repeat (first|exact Snoc.nil|apply Snoc.cons))) rfl ?_;refine Sl ?_;refine S As (nil ?_);refine seqK fun K2 hK2=>?_;refine seqR (S LL ?_);obtain⟨x4,gx4,hE⟩:=bO hE;refine Sc rfl rfl (Z115_walk gx4) ?_;refine S NB (nil ?_);refine cE hE (fun hc5 hE=>?_) (fun hc5 hE=>?_)
 ·refine seqR (S BU ?_);refine Sf ?_;refine S As (nil ?_);exact rt hE
 refine sk hK2 ?_;clear hK2 K2;refine seqR (S LL ?_);obtain⟨x8,gx8,hE⟩:=bO hE;refine Sc rfl rfl (Z119_walk gx8) ?_;refine Sf ?_;refine nil ?_;refine seqR (S FL (S LL ?_));obtain⟨x10,gx10,hE⟩:=bO hE;refine s0 (partM (f:=(intE .i64)) (l:=(some (1:Int))) (r:=none) (TK rfl) rfl (TK rfl) rfl rfl rfl trivial gx10) rfl ?_;refine S FL ?_;refine Sf ?_;refine nil ?_;refine seqR (S LL ?_);refine Sf ?_;refine S As (nil ?_)
 exact rt hE
end Go.Proofs

namespace Go.Proofs
open Go Go.Ab
open AOps Cert AWp Keeps KeepsT
variable {lou:Lou}
def Z104_j2  :Option Int:=some (-1:Int)
def Z104_l6 (a0:(Sl Z9)) (a1:(Z9->Option Bool)) :Nat->Nat->Option Int
 | 0,_=>none
 | n6+1,s8_7=>bif (decide (((s8_7:Nat):Int)<((a0.l.length:Nat):Int))) then((a0.l[s8_7]?).bind fun x14=>(a1 x14).bind fun x15=>bif x15 then(some ((s8_7:Nat):Int)) else((Z104_l6 a0 a1 n6) (s8_7+1))) else(Z104_j2   )
def Z104 (a0:(Sl Z9)) (a1:(Z9->Option Bool)):Option Int:=Z104_l6 a0 a1 (a0.l.length+1) 0
theorem Z104_walk {a0:Sl Z9}{a1:Z9->Option Bool}{w0:Option Nat}{cl1:List D}{k1:Nat}{r:Int}(hE:Z104 a0 a1=some r) (H:Heap) (hf1:∀x0 r,a1 x0=some r->∀H,ACalls Tryz.prog k1 ([.agg (Z9.c x0)]++cl1.map A.d) H fun v h'=>v=.a (.d (.bool r))/\h'=H):ACalls Tryz.prog 138 [.d (Sl.d 5 Z9.c w0 a0),.d (.func k1 cl1)] H fun v h'=>v=.a (.d (.int .i64 r))/\h'=H:=by
 unfold Z104 at hE;refine ACalls.oW 19 [.tmp 4] Tryz.call138 Tryz.func138 ?_;refine seqR (S As (nil ?_));refine seqJH KeepsT.nil (fun(z:Unit)=>[]) (fun z=>H) (fun z=>Z104_j2 =some r) ?_ ?_
 ·intro K2 hK2;refine seqR (S Mv ?_);refine sLen (f:=Z9.c) (s:=a0) (TK rfl) rfl rfl rfl rfl fun hL5=>?_;refine S Mv (nil ?_);refine block ?_;refine loopH (TA 0 (TA 1 (TA 7 KeepsT.nil))) (fun(z:Nat×Nat)=>[(8,.a (.d (.int .i64 ((z.2:Nat):Int))))]) (fun z=>H) (fun z=>z.1) (fun z=>Z104_l6 a0 a1 z.1 z.2=some r) ((a0.l.length+1),0) hE Weak.toA ?_;rintro ⟨n6,s8_7⟩ hE K6 hK6;try dsimp only at hE
  cases n6 with
  | zero=>cases hE
  | succ n6 =>
    rw [Z104_l6] at hE;refine seqR (S BI (nil ?_));refine seqK fun K9 hK9=>?_;refine cE hE (fun hc10 hE=>?_) (fun hc10 hE=>?_)
    ·try dsimp only at hc10
     have hf10:=of_decide_eq_true hc10;refine sk hK9 ?_;clear hK9 K9;refine seqK fun K11 hK11=>?_;refine block ?_;refine seqR (S Mv (S As (nil ?_)));refine seqR (S Mv (S Mv (S Mv ?_)));obtain⟨x14,gx14,hE⟩:=bO hE;refine S (ix Z9.c s8_7 gx14) (S Ld ?_);obtain⟨x15,gx15,hE⟩:=bO hE;refine s0 (callP rfl rfl (hf1 _ _ gx15)) rfl ?_;refine nil ?_;refine cE hE (fun hc16 hE=>?_) (fun hc16 hE=>?_)
     ·refine seqR (S Mv (S As (nil ?_)));exact rt hE
     refine sk hK11 ?_;clear hK11 K11;refine region ?_;refine SI ?_;refine S Mv (nil ?_);exact hK6 _ (n6,(s8_7+1)) Weak.toA hE (Nat.lt_succ_self _)
    refine AWp.exit ?_;exact hK2 _ () Weak.toA hE
 rintro _ hE;try dsimp only at hE
 unfold Z104_j2 at hE;refine seqR (S As (nil ?_));exact rt hE
def Z97 (a0:(Sl Z9)) (a1:(Z9->Option Bool)):Option Bool:=(Z104 a0 a1).bind fun x3=>some (decide ((0:Int)<=x3))
theorem Z97_walk {a0:Sl Z9}{a1:Z9->Option Bool}{w0:Option Nat}{cl1:List D}{k1:Nat}{r:Bool}(hE:Z97 a0 a1=some r) (H:Heap) (hf1:∀x0 r,a1 x0=some r->∀H,ACalls Tryz.prog k1 ([.agg (Z9.c x0)]++cl1.map A.d) H fun v h'=>v=.a (.d (.bool r))/\h'=H):ACalls Tryz.prog 127 [.d (Sl.d 5 Z9.c w0 a0),.d (.func k1 cl1)] H fun v h'=>v=.a (.d (.bool r))/\h'=H:=by
 unfold Z97 at hE;refine ACalls.oW 9 [.tmp 4] Tryz.call127 Tryz.func127 ?_;refine seqR (S As (nil ?_));refine seqR (S Mv (S Mv ?_));obtain⟨x3,gx3,hE⟩:=bO hE;refine s0 (callP rfl rfl (fun H=>Z104_walk gx3 H hf1)) rfl ?_;refine S BI (S As (nil ?_));exact rt hE
def Z106_j2  :Option Int:=some (-1:Int)
def Z106_l6 (a0:(Sl Z7)) (a1:(Z7->Option Bool)) :Nat->Nat->Option Int
 | 0,_=>none
 | n6+1,s8_7=>bif (decide (((s8_7:Nat):Int)<((a0.l.length:Nat):Int))) then((a0.l[s8_7]?).bind fun x14=>(a1 x14).bind fun x15=>bif x15 then(some ((s8_7:Nat):Int)) else((Z106_l6 a0 a1 n6) (s8_7+1))) else(Z106_j2   )
def Z106 (a0:(Sl Z7)) (a1:(Z7->Option Bool)):Option Int:=Z106_l6 a0 a1 (a0.l.length+1) 0
theorem Z106_walk {a0:Sl Z7}{a1:Z7->Option Bool}{w0:Option Nat}{cl1:List D}{k1:Nat}{r:Int}(hE:Z106 a0 a1=some r) (H:Heap) (hf1:∀x0 r,a1 x0=some r->∀H,ACalls Tryz.prog k1 ([.agg (Z7.c x0)]++cl1.map A.d) H fun v h'=>v=.a (.d (.bool r))/\h'=H):ACalls Tryz.prog 139 [.d (Sl.d 2 Z7.c w0 a0),.d (.func k1 cl1)] H fun v h'=>v=.a (.d (.int .i64 r))/\h'=H:=by
 unfold Z106 at hE;refine ACalls.oW 19 [.tmp 4] Tryz.call139 Tryz.func139 ?_;refine seqR (S As (nil ?_));refine seqJH KeepsT.nil (fun(z:Unit)=>[]) (fun z=>H) (fun z=>Z106_j2 =some r) ?_ ?_
 ·intro K2 hK2;refine seqR (S Mv ?_);refine sLen (f:=Z7.c) (s:=a0) (TK rfl) rfl rfl rfl rfl fun hL5=>?_;refine S Mv (nil ?_);refine block ?_;refine loopH (TA 0 (TA 1 (TA 7 KeepsT.nil))) (fun(z:Nat×Nat)=>[(8,.a (.d (.int .i64 ((z.2:Nat):Int))))]) (fun z=>H) (fun z=>z.1) (fun z=>Z106_l6 a0 a1 z.1 z.2=some r) ((a0.l.length+1),0) hE Weak.toA ?_;rintro ⟨n6,s8_7⟩ hE K6 hK6;try dsimp only at hE
  cases n6 with
  | zero=>cases hE
  | succ n6 =>
    rw [Z106_l6] at hE;refine seqR (S BI (nil ?_));refine seqK fun K9 hK9=>?_;refine cE hE (fun hc10 hE=>?_) (fun hc10 hE=>?_)
    ·try dsimp only at hc10
     have hf10:=of_decide_eq_true hc10;refine sk hK9 ?_;clear hK9 K9;refine seqK fun K11 hK11=>?_;refine block ?_;refine seqR (S Mv (S As (nil ?_)));refine seqR (S Mv (S Mv (S Mv ?_)));obtain⟨x14,gx14,hE⟩:=bO hE;refine S (ix Z7.c s8_7 gx14) (S Ld ?_);obtain⟨x15,gx15,hE⟩:=bO hE;refine s0 (callP rfl rfl (hf1 _ _ gx15)) rfl ?_;refine nil ?_;refine cE hE (fun hc16 hE=>?_) (fun hc16 hE=>?_)
     ·refine seqR (S Mv (S As (nil ?_)));exact rt hE
     refine sk hK11 ?_;clear hK11 K11;refine region ?_;refine SI ?_;refine S Mv (nil ?_);exact hK6 _ (n6,(s8_7+1)) Weak.toA hE (Nat.lt_succ_self _)
    refine AWp.exit ?_;exact hK2 _ () Weak.toA hE
 rintro _ hE;try dsimp only at hE
 unfold Z106_j2 at hE;refine seqR (S As (nil ?_));exact rt hE
def Z99 (a0:(Sl Z7)) (a1:(Z7->Option Bool)):Option Bool:=(Z106 a0 a1).bind fun x3=>some (decide ((0:Int)<=x3))
theorem Z99_walk {a0:Sl Z7}{a1:Z7->Option Bool}{w0:Option Nat}{cl1:List D}{k1:Nat}{r:Bool}(hE:Z99 a0 a1=some r) (H:Heap) (hf1:∀x0 r,a1 x0=some r->∀H,ACalls Tryz.prog k1 ([.agg (Z7.c x0)]++cl1.map A.d) H fun v h'=>v=.a (.d (.bool r))/\h'=H):ACalls Tryz.prog 129 [.d (Sl.d 2 Z7.c w0 a0),.d (.func k1 cl1)] H fun v h'=>v=.a (.d (.bool r))/\h'=H:=by
 unfold Z99 at hE;refine ACalls.oW 9 [.tmp 4] Tryz.call129 Tryz.func129 ?_;refine seqR (S As (nil ?_));refine seqR (S Mv (S Mv ?_));obtain⟨x3,gx3,hE⟩:=bO hE;refine s0 (callP rfl rfl (fun H=>Z106_walk gx3 H hf1)) rfl ?_;refine S BI (S As (nil ?_));exact rt hE
def Z27 (a0:Z7) (a1:Z9):Option Bool:=some ((a0.FName==a1.FText))
theorem Z27_walk {a0:Z7}{a1:Z9}{r:Bool}(hE:Z27 a0 a1=some r) (H:Heap) :ACalls Tryz.prog 130 [.agg (Z7.c a0),.d (.view (Z9.c a1))] H fun v h'=>v=.a (.d (.bool r))/\h'=H:=by
 unfold Z27 at hE;refine ACalls.oW 9 [.tmp 3] Tryz.call130 Tryz.func130 ?_;refine seqR (S BX (S As (nil ?_)));refine seqR (S Fv (S Ld (S Fv (S Ld (S BS (S As (nil ?_)))))));exact rt hE
def Z107_j2  :Option Int:=some (-1:Int)
def Z107_l6 (a0:(Sl Z6)) (a1:(Z6->Option Bool)) :Nat->Nat->Option Int
 | 0,_=>none
 | n6+1,s8_7=>bif (decide (((s8_7:Nat):Int)<((a0.l.length:Nat):Int))) then((a0.l[s8_7]?).bind fun x14=>(a1 x14).bind fun x15=>bif x15 then(some ((s8_7:Nat):Int)) else((Z107_l6 a0 a1 n6) (s8_7+1))) else(Z107_j2   )
def Z107 (a0:(Sl Z6)) (a1:(Z6->Option Bool)):Option Int:=Z107_l6 a0 a1 (a0.l.length+1) 0
theorem Z107_walk {a0:Sl Z6}{a1:Z6->Option Bool}{w0:Option Nat}{cl1:List D}{k1:Nat}{r:Int}(hE:Z107 a0 a1=some r) (H:Heap) (hf1:∀x0 r,a1 x0=some r->∀H,ACalls Tryz.prog k1 ([.agg (Z6.c x0)]++cl1.map A.d) H fun v h'=>v=.a (.d (.bool r))/\h'=H):ACalls Tryz.prog 143 [.d (Sl.d 10 Z6.c w0 a0),.d (.func k1 cl1)] H fun v h'=>v=.a (.d (.int .i64 r))/\h'=H:=by
 unfold Z107 at hE;refine ACalls.oW 19 [.tmp 4] Tryz.call143 Tryz.func143 ?_;refine seqR (S As (nil ?_));refine seqJH KeepsT.nil (fun(z:Unit)=>[]) (fun z=>H) (fun z=>Z107_j2 =some r) ?_ ?_
 ·intro K2 hK2;refine seqR (S Mv ?_);refine sLen (f:=Z6.c) (s:=a0) (TK rfl) rfl rfl rfl rfl fun hL5=>?_;refine S Mv (nil ?_);refine block ?_;refine loopH (TA 0 (TA 1 (TA 7 KeepsT.nil))) (fun(z:Nat×Nat)=>[(8,.a (.d (.int .i64 ((z.2:Nat):Int))))]) (fun z=>H) (fun z=>z.1) (fun z=>Z107_l6 a0 a1 z.1 z.2=some r) ((a0.l.length+1),0) hE Weak.toA ?_;rintro ⟨n6,s8_7⟩ hE K6 hK6;try dsimp only at hE
  cases n6 with
  | zero=>cases hE
  | succ n6 =>
    rw [Z107_l6] at hE;refine seqR (S BI (nil ?_));refine seqK fun K9 hK9=>?_;refine cE hE (fun hc10 hE=>?_) (fun hc10 hE=>?_)
    ·try dsimp only at hc10
     have hf10:=of_decide_eq_true hc10;refine sk hK9 ?_;clear hK9 K9;refine seqK fun K11 hK11=>?_;refine block ?_;refine seqR (S Mv (S As (nil ?_)));refine seqR (S Mv (S Mv (S Mv ?_)));obtain⟨x14,gx14,hE⟩:=bO hE;refine S (ix Z6.c s8_7 gx14) (S Ld ?_);obtain⟨x15,gx15,hE⟩:=bO hE;refine s0 (callP rfl rfl (hf1 _ _ gx15)) rfl ?_;refine nil ?_;refine cE hE (fun hc16 hE=>?_) (fun hc16 hE=>?_)
     ·refine seqR (S Mv (S As (nil ?_)));exact rt hE
     refine sk hK11 ?_;clear hK11 K11;refine region ?_;refine SI ?_;refine S Mv (nil ?_);exact hK6 _ (n6,(s8_7+1)) Weak.toA hE (Nat.lt_succ_self _)
    refine AWp.exit ?_;exact hK2 _ () Weak.toA hE
 rintro _ hE;try dsimp only at hE
 unfold Z107_j2 at hE;refine seqR (S As (nil ?_));exact rt hE
def Z100 (a0:(Sl Z6)) (a1:(Z6->Option Bool)):Option Bool:=(Z107 a0 a1).bind fun x3=>some (decide ((0:Int)<=x3))
theorem Z100_walk {a0:Sl Z6}{a1:Z6->Option Bool}{w0:Option Nat}{cl1:List D}{k1:Nat}{r:Bool}(hE:Z100 a0 a1=some r) (H:Heap) (hf1:∀x0 r,a1 x0=some r->∀H,ACalls Tryz.prog k1 ([.agg (Z6.c x0)]++cl1.map A.d) H fun v h'=>v=.a (.d (.bool r))/\h'=H):ACalls Tryz.prog 140 [.d (Sl.d 10 Z6.c w0 a0),.d (.func k1 cl1)] H fun v h'=>v=.a (.d (.bool r))/\h'=H:=by
 unfold Z100 at hE;refine ACalls.oW 9 [.tmp 4] Tryz.call140 Tryz.func140 ?_;refine seqR (S As (nil ?_));refine seqR (S Mv (S Mv ?_));obtain⟨x3,gx3,hE⟩:=bO hE;refine s0 (callP rfl rfl (fun H=>Z107_walk gx3 H hf1)) rfl ?_;refine S BI (S As (nil ?_));exact rt hE
def Z31 (a0:Z6) (a1:Z9):Option Bool:=(Z116 a0.FType).bind fun x3=>guardO ((x3&&(!a0.FHas))) (Z102 a1.FKeys a0.FName) false fun x4=>some ((x3&&(!a0.FHas))&&(!x4))
theorem Z31_walk {a0:Z6}{a1:Z9}{r:Bool}(hE:Z31 a0 a1=some r) (H:Heap) :ACalls Tryz.prog 141 [.agg (Z6.c a0),.d (.view (Z9.c a1))] H fun v h'=>v=.a (.d (.bool r))/\h'=H:=by
 unfold Z31 at hE;refine ACalls.oW 20 [.tmp 3] Tryz.call141 Tryz.func141 ?_;refine seqR (S BX (S As (nil ?_)));refine seqR (S Fv (S Ld ?_));obtain⟨x3,gx3,hE⟩:=bO hE;refine Sc rfl rfl (Z116_walk gx3) ?_;refine S Mv (G0 Fv ?_);refine G1 8 rfl Ld ?_;refine G1 9 rfl NB ?_;refine S PA (S Mv (G0 Fv ?_));refine G1 13 rfl Ld ?_;refine G0 Fv ?_;refine G1 15 rfl Ld ?_;obtain⟨x4,gx4,hE⟩:=gO hE;refine Gc2 14 16 rfl rfl rfl rfl rfl rfl (fun hC=>Z102_walk (gx4 hC)) ?_
 refine G1 17 rfl NB ?_;refine S PA (S As (nil ?_));exact rt hE
end Go.Proofs

namespace Go.Proofs
open Go Go.Ab
open AOps Cert AWp Keeps KeepsT
variable {lou:Lou}
def Z30_j2 (a1:TDef) (a2:Z9)  :Option Bool:=(Z100 a1.FInputs (fun y0=>Z31 y0 a2)).bind fun x4=>some (!x4)
def Z30_l7 (a0:TDoc) (a1:TDef) (a2:Z9) (k_rec_113:TDoc->TRef->Z9->Option Bool):Nat->Nat->Option Bool
 | 0,_=>none
 | n7+1,s14_8=>bif (decide (((s14_8:Nat):Int)<((a2.FKeys.l.length:Nat):Int))) then((a2.FKeys.l[s14_8]?).bind fun x14=>(Z79 a1.FInputs x14).bind fun x16=>guardO (!((!x16.2)||(decide (((a2.FItems.l.length:Nat):Int)<=((s14_8:Nat):Int))))) (a2.FItems.l[s14_8]?) Z9.zero fun x18=>guardO (!((!x16.2)||(decide (((a2.FItems.l.length:Nat):Int)<=((s14_8:Nat):Int))))) (k_rec_113 a0 x16.1.FType x18) false fun x19=>bif (((!x16.2)||(decide (((a2.FItems.l.length:Nat):Int)<=((s14_8:Nat):Int))))||(!x19)) then(some false) else((Z30_l7 a0 a1 a2 k_rec_113 n7) (s14_8+1))) else(Z30_j2 a1 a2  )
mutual
def fields_fits_n:Nat->TDoc->TRef->Z9->Option Bool
 | 0,_,_,_=>none
 | n+1,a0,a1,a2=>bif (decide (a2.FKind=(7:Int))) then(some true) else((Z80 a0 a1.FName).bind fun x7=>bif (!x7) then(some false) else(bif (decide (a2.FKind=(0:Int))) then((Z116 a1).bind fun x13=>some (!x13)) else((Z114 a1).bind fun x16=>bif x16.2 then(bif (!decide (a2.FKind=(5:Int))) then(((fields_fits_n n) a0 x16.1 a2).bind fun x23=>some x23) else((Z97 a2.FItems (fun y0=>(fields_fits_1_n n) y0 a0 x16.1)).bind fun x25=>some (!x25))) else(bif ((a1.FName==([73,110,116]:Bs))) then(some (((decide (a2.FKind=(2:Int)))&&(decide ((-2147483648:Int)<=a2.FInt)))&&(decide (a2.FInt<(2147483648:Int))))) else(bif ((a1.FName==([83,116,114,105,110,103]:Bs))) then(some (decide (a2.FKind=(3:Int)))) else(bif ((a1.FName==([66,111,111,108,101,97,110]:Bs))) then(some (decide (a2.FKind=(1:Int)))) else(bif ((a1.FName==([73,68]:Bs))) then(some ((decide (a2.FKind=(3:Int)))||(decide (a2.FKind=(2:Int))))) else((Z78 a0 a1.FName).bind fun x41=>bif (decide (x41.1.FKind=(4:Int))) then(guardO ((decide (a2.FKind=(4:Int)))) (Z99 x41.1.FMembers (fun y0=>Z27 y0 a2)) false fun x46=>some ((decide (a2.FKind=(4:Int)))&&x46)) else(guardO ((decide (a2.FKind=(6:Int)))) ((Z30_n n) a0 x41.1 a2) false fun x48=>some ((decide (a2.FKind=(6:Int)))&&x48))))))))))
def fields_fits_1_n:Nat->Z9->TDoc->TRef->Option Bool
 | 0,_,_,_=>none
 | n+1,a0,a1,a2=>((fields_fits_n n) a1 a2 a0).bind fun x3=>some (!x3)
def Z30_n:Nat->TDoc->TDef->Z9->Option Bool
 | 0,_,_,_=>none
 | n+1,a0,a1,a2=>Z30_l7 a0 a1 a2 (fields_fits_n n) (a2.FKeys.l.length+1) 0
end
theorem fields_fits_step (n:Nat) (ih_113:∀{a0:TDoc}{a1:TRef}{a2:Z9}{r:Bool},fields_fits_n n a0 a1 a2=some r->∀(H:Heap),ACalls Tryz.prog 113 [.agg (TDoc.c a0),.agg (TRef.c a1),.agg (Z9.c a2)] H fun v h'=>v=.a (.d (.bool r))/\h'=H) (ih_128:∀{a0:Z9}{a1:TDoc}{a2:TRef}{r:Bool},fields_fits_1_n n a0 a1 a2=some r->∀(H:Heap),ACalls Tryz.prog 128 [.agg (Z9.c a0),.d (.view (TDoc.c a1)),.d (.view (TRef.c a2))] H fun v h'=>v=.a (.d (.bool r))/\h'=H) (ih_131:∀{a0:TDoc}{a1:TDef}{a2:Z9}{r:Bool},Z30_n n a0 a1 a2=some r->∀(H:Heap),ACalls Tryz.prog 131 [.agg (TDoc.c a0),.agg (TDef.c a1),.agg (Z9.c a2)] H fun v h'=>v=.a (.d (.bool r))/\h'=H):∀{a0:TDoc}{a1:TRef}{a2:Z9}{r:Bool},fields_fits_n (n+1) a0 a1 a2=some r->∀(H:Heap),ACalls Tryz.prog 113 [.agg (TDoc.c a0),.agg (TRef.c a1),.agg (Z9.c a2)] H fun v h'=>v=.a (.d (.bool r))/\h'=H:=by
 intro a0 a1 a2   r hE H ;rw [fields_fits_n] at hE;refine ACalls.oW 111 [.tmp 6] Tryz.call113 Tryz.func113 ?_;refine seqR (S BX (S BX (S BX (S As (nil ?_)))));refine seqK fun K2 hK2=>?_;refine block ?_;refine seqR (S Fv (S Ld (S BI (S As (nil ?_)))));refine cE hE (fun hc4 hE=>?_) (fun hc4 hE=>?_)
 ·refine seqR (S As (nil ?_));exact rt hE
 refine seqR (S Ld (S Fv (S Ld ?_)));obtain⟨x7,gx7,hE⟩:=bO hE;refine Sc rfl rfl (Z80_walk gx7) ?_;refine S NB (S As (nil ?_));refine cE hE (fun hc8 hE=>?_) (fun hc8 hE=>?_)
 ·refine seqR (S As (nil ?_));exact rt hE
 refine seqR (S Fv (S Ld (S BI (S As (nil ?_)))));refine cE hE (fun hc11 hE=>?_) (fun hc11 hE=>?_)
 ·refine seqR (S Ld ?_);obtain⟨x13,gx13,hE⟩:=bO hE;refine Sc rfl rfl (Z116_walk gx13) ?_;refine S NB (S As (nil ?_));exact rt hE
 refine sk hK2 ?_;clear hK2 K2;refine seqK fun K14 hK14=>?_;refine seqR (S Ld ?_);obtain⟨x16,gx16,hE⟩:=bO hE;refine Sc rfl rfl (Z114_walk gx16) ?_;refine S Mv (S EX (S EX ?_));refine Sl ?_;refine Sf ?_;refine S As (nil ?_);refine freezeA 7 _ rfl (KA 3 (KA 4 (KA 5 (KA 8 Keeps.nil)))) ?_;refine seqR (S Mv (nil ?_));refine cE hE (fun hc18 hE=>?_) (fun hc18 hE=>?_)
 ·refine seqK fun K19 hK19=>?_;refine seqR (S Fv (S Ld (S BI (nil ?_))));refine cE hE (fun hc21 hE=>?_) (fun hc21 hE=>?_)
  ·refine seqR (S Ld (S Ld (S Ld ?_)));obtain⟨x23,gx23,hE⟩:=bO hE;refine Sc rfl rfl (ih_113 gx23) ?_;refine S As (nil ?_);exact rt hE
  refine sk hK19 ?_;clear hK19 K19;refine seqR (S Fv ?_);refine s0 (loadV (TK rfl) rfl rfl (congrArg (fun x=>some (A.d x)) (Z9.FItemsD_eq _))) rfl ?_;refine s0 (makeFunc rfl) rfl ?_;obtain⟨x25,gx25,hE⟩:=bO hE;refine s0 (callP rfl rfl (fun H=>Z97_walk gx25 H (fun _ _ hx=>ih_128 hx))) rfl ?_;refine S NB (S As (nil ?_));exact rt hE
 refine sk hK14 ?_;clear hK14 K14;refine seqK fun K26 hK26=>?_;refine seqR (S Fv (S Ld (nil ?_)));refine block ?_;refine seqR (S BS (S As (nil ?_)));refine cE hE (fun hc29 hE=>?_) (fun hc29 hE=>?_)
 ·refine seqR (S Fv (S Ld (S BI (S Mv (G0 Fv ?_)))));refine G1 54 rfl Ld ?_;refine G1 55 rfl BI ?_;refine S PA (S Mv (G0 Fv ?_));refine G1 59 rfl Ld ?_;refine G1 60 rfl BI ?_;refine S PA (S As (nil ?_));exact rt hE
 refine seqR (S BS (S As (nil ?_)));refine cE hE (fun hc32 hE=>?_) (fun hc32 hE=>?_)
 ·refine seqR (S Fv (S Ld (S BI (S As (nil ?_)))));exact rt hE
 refine seqR (S BS (S As (nil ?_)));refine cE hE (fun hc35 hE=>?_) (fun hc35 hE=>?_)
 ·refine seqR (S Fv (S Ld (S BI (S As (nil ?_)))));exact rt hE
 refine seqR (S BS (S As (nil ?_)));refine cE hE (fun hc38 hE=>?_) (fun hc38 hE=>?_)
 ·refine seqR (S Fv (S Ld (S BI (S Mv (G0 Fv ?_)))));refine G1 79 rfl Ld ?_;refine G1 80 rfl BI ?_;refine S PO (S As (nil ?_));exact rt hE
 refine sk hK26 ?_;clear hK26 K26;refine seqR (S Ld (S Fv (S Ld ?_)));obtain⟨x41,gx41,hE⟩:=bO hE;refine Sc rfl rfl (Z78_walk gx41) ?_;refine S Mv (S EX (S EX ?_));refine Sl ?_;refine Sf ?_;refine S As (nil ?_);refine freezeA 9 _ rfl (KA 3 (KA 5 Keeps.nil)) ?_;refine seqK fun K42 hK42=>?_;refine seqR (S Fv (S Ld (S BI (nil ?_))));refine cE hE (fun hc44 hE=>?_) (fun hc44 hE=>?_)
 ·refine seqR (S Fv (S Ld (S BI (S Mv (G0 Fv ?_)))));refine G1 97 rfl Ld ?_;refine gC rfl rfl (fun hC=>makeFunc rfl) rfl ?_;obtain⟨x46,gx46,hE⟩:=gO hE;refine gC rfl rfl (fun hC=>ungdA (k:=98) rfl (ungdA (k:=99) rfl (callP rfl rfl (fun H=>Z99_walk (gx46 hC) H (fun _ _ hx=>Z27_walk hx))))) rfl ?_;refine S PA (S As (nil ?_));exact rt hE
 refine sk hK42 ?_;clear hK42 K42;refine seqR (S Fv (S Ld (S BI (S Mv (G0 Ld (G0 Ld (G0 Ld ?_)))))));obtain⟨x48,gx48,hE⟩:=gO hE;refine gC rfl rfl (fun hC=>ungdA (k:=106) rfl (ungdA (k:=107) rfl (ungdA (k:=108) rfl (callP rfl rfl (fun H=>ih_131 (gx48 hC) H))))) rfl ?_;refine S PA (S As (nil ?_));exact rt hE
theorem fields_fits_1_step (n:Nat) (ih_113:∀{a0:TDoc}{a1:TRef}{a2:Z9}{r:Bool},fields_fits_n n a0 a1 a2=some r->∀(H:Heap),ACalls Tryz.prog 113 [.agg (TDoc.c a0),.agg (TRef.c a1),.agg (Z9.c a2)] H fun v h'=>v=.a (.d (.bool r))/\h'=H) (ih_128:∀{a0:Z9}{a1:TDoc}{a2:TRef}{r:Bool},fields_fits_1_n n a0 a1 a2=some r->∀(H:Heap),ACalls Tryz.prog 128 [.agg (Z9.c a0),.d (.view (TDoc.c a1)),.d (.view (TRef.c a2))] H fun v h'=>v=.a (.d (.bool r))/\h'=H) (ih_131:∀{a0:TDoc}{a1:TDef}{a2:Z9}{r:Bool},Z30_n n a0 a1 a2=some r->∀(H:Heap),ACalls Tryz.prog 131 [.agg (TDoc.c a0),.agg (TDef.c a1),.agg (Z9.c a2)] H fun v h'=>v=.a (.d (.bool r))/\h'=H):∀{a0:Z9}{a1:TDoc}{a2:TRef}{r:Bool},fields_fits_1_n (n+1) a0 a1 a2=some r->∀(H:Heap),ACalls Tryz.prog 128 [.agg (Z9.c a0),.d (.view (TDoc.c a1)),.d (.view (TRef.c a2))] H fun v h'=>v=.a (.d (.bool r))/\h'=H:=by
 intro a0 a1 a2   r hE H ;rw [fields_fits_1_n] at hE;refine ACalls.oW 10 [.tmp 4] Tryz.call128 Tryz.func128 ?_;refine seqR (S BX (S As (nil ?_)));refine seqR (S Ld (S Ld (S Ld ?_)));obtain⟨x3,gx3,hE⟩:=bO hE;refine Sc rfl rfl (ih_113 gx3) ?_;refine S NB (S As (nil ?_));exact rt hE
theorem Z30_step (n:Nat) (ih_113:∀{a0:TDoc}{a1:TRef}{a2:Z9}{r:Bool},fields_fits_n n a0 a1 a2=some r->∀(H:Heap),ACalls Tryz.prog 113 [.agg (TDoc.c a0),.agg (TRef.c a1),.agg (Z9.c a2)] H fun v h'=>v=.a (.d (.bool r))/\h'=H) (ih_128:∀{a0:Z9}{a1:TDoc}{a2:TRef}{r:Bool},fields_fits_1_n n a0 a1 a2=some r->∀(H:Heap),ACalls Tryz.prog 128 [.agg (Z9.c a0),.d (.view (TDoc.c a1)),.d (.view (TRef.c a2))] H fun v h'=>v=.a (.d (.bool r))/\h'=H) (ih_131:∀{a0:TDoc}{a1:TDef}{a2:Z9}{r:Bool},Z30_n n a0 a1 a2=some r->∀(H:Heap),ACalls Tryz.prog 131 [.agg (TDoc.c a0),.agg (TDef.c a1),.agg (Z9.c a2)] H fun v h'=>v=.a (.d (.bool r))/\h'=H):∀{a0:TDoc}{a1:TDef}{a2:Z9}{r:Bool},Z30_n (n+1) a0 a1 a2=some r->∀(H:Heap),ACalls Tryz.prog 131 [.agg (TDoc.c a0),.agg (TDef.c a1),.agg (Z9.c a2)] H fun v h'=>v=.a (.d (.bool r))/\h'=H:=by
 intro a0 a1 a2   r hE H ;rw [Z30_n] at hE;refine ACalls.oW 53 [.tmp 6] Tryz.call131 Tryz.func131 ?_;refine seqR (S BX (S BX (S BX (S As (nil ?_)))));refine seqJH (TA 4 (TA 5 KeepsT.nil)) (fun(z:Unit)=>[]) (fun z=>H) (fun z=>Z30_j2 a1 a2 =some r) ?_ ?_
 ·intro K2 hK2;refine seqR (S Fv (S Ld ?_));refine sLen (f:=strE) (s:=a2.FKeys) (TK rfl) rfl rfl rfl rfl fun hL6=>?_;refine S Mv (nil ?_);refine block ?_;refine loopH (TA 3 (TA 4 (TA 5 (TA 12 (TA 13 KeepsT.nil))))) (fun(z:Nat×Nat)=>[(14,.a (.d (.int .i64 ((z.2:Nat):Int))))]) (fun z=>H) (fun z=>z.1) (fun z=>Z30_l7 a0 a1 a2 (fields_fits_n n) z.1 z.2=some r) ((a2.FKeys.l.length+1),0) hE Weak.toA ?_;rintro ⟨n7,s14_8⟩ hE K7 hK7
  try dsimp only at hE
  cases n7 with
  | zero=>cases hE
  | succ n7 =>
    rw [Z30_l7] at hE;refine seqR (S BI (nil ?_));refine seqK fun K10 hK10=>?_;refine cE hE (fun hc11 hE=>?_) (fun hc11 hE=>?_)
    ·try dsimp only at hc11
     have hf11:=of_decide_eq_true hc11;refine sk hK10 ?_;clear hK10 K10;refine seqK fun K12 hK12=>?_;refine block ?_;refine seqR (S Mv ?_);obtain⟨x14,gx14,hE⟩:=bO hE;refine S (ix strE s14_8 gx14) (S Ld (S As (S As (nil ?_))));refine seqR (S Fv (S Ld (S Mv ?_)));obtain⟨x16,gx16,hE⟩:=bO hE;refine Sc rfl rfl (Z79_walk gx16) ?_;refine S Mv (S EX (S EX ?_));refine Sl ?_;refine Sf ?_;refine S As (nil ?_)
     refine freezeA 9 _ rfl (KA 3 (KA 4 (KA 5 (KA 7 (KA 10 (KA 12 (KA 13 (KA 14 Keeps.nil)))))))) ?_;refine AWp.seqD (Sd Mv (Sd NB (Sd Mv (G0d Mv (G0d Fv ?_)))));refine DOps.gC rfl rfl (fun hC=>ungdA (k:=30) rfl (loadV (TK rfl) rfl rfl (congrArg (fun x=>some (A.d x)) (Z9.FItemsD_eq _)))) rfl ?_;refine DOps.gC rfl rfl (fun hC=>ungdA (k:=31) rfl (lenM' (f:=Z9.c) (s:=a2.FItems) (TK rfl) rfl rfl rfl)) rfl ?_
     refine G2d 29 32 rfl rfl BI ?_;refine Sd PO (Sd Mv (G0d Ld (G0d Fv ?_)));refine G1d 37 rfl Ld ?_;refine G0d Fv ?_;refine DOps.gC rfl rfl (fun hC=>ungdA (k:=39) rfl (loadV (TK rfl) rfl rfl (congrArg (fun x=>some (A.d x)) (Z9.FItemsD_eq _)))) rfl ?_;refine G0d Mv ?_;obtain⟨x18,gx18,hE⟩:=gO hE;refine DOps.gC rfl rfl (fun hC=>ungdA (k:=40) rfl (ungdA (k:=41) rfl (idxMn (f:=Z9.c) (n:=s14_8) (TK rfl) rfl (TK rfl) rfl rfl rfl (gx18 hC)))) rfl ?_
     refine G1d 42 rfl Ld ?_;obtain⟨x19,gx19,hE⟩:=gO hE;refine DOps.gC rfl rfl (fun hC=>ungdA (k:=36) rfl (ungdA (k:=38) rfl (ungdA (k:=43) rfl (callP rfl rfl (fun H=>ih_113 (gx19 hC) H))))) rfl ?_;refine G1d 44 rfl NB ?_;refine Sd PO ?_;refine DOps.nil (by decide +kernel) ?_;refine cE hE (fun hc20 hE=>?_) (fun hc20 hE=>?_)
     ·refine seqR (S As (nil ?_));exact rt hE
     refine sk hK12 ?_;clear hK12 K12;refine region ?_;refine SI ?_;refine S Mv (nil ?_);exact hK7 _ (n7,(s14_8+1)) Weak.toA hE (Nat.lt_succ_self _)
    refine AWp.exit ?_;exact hK2 _ () Weak.toA hE
 rintro _ hE;try dsimp only at hE
 unfold Z30_j2 at hE;refine seqR (S Fv (S Ld ?_));refine s0 (makeFunc rfl) rfl ?_;obtain⟨x4,gx4,hE⟩:=bO hE;refine s0 (callP rfl rfl (fun H=>Z100_walk gx4 H (fun _ _ hx=>Z31_walk hx))) rfl ?_;refine S NB (S As (nil ?_));exact rt hE
theorem fields_fits_all:∀(n:Nat),(∀{a0:TDoc}{a1:TRef}{a2:Z9}{r:Bool},fields_fits_n n a0 a1 a2=some r->∀(H:Heap),ACalls Tryz.prog 113 [.agg (TDoc.c a0),.agg (TRef.c a1),.agg (Z9.c a2)] H fun v h'=>v=.a (.d (.bool r))/\h'=H)/\(∀{a0:Z9}{a1:TDoc}{a2:TRef}{r:Bool},fields_fits_1_n n a0 a1 a2=some r->∀(H:Heap),ACalls Tryz.prog 128 [.agg (Z9.c a0),.d (.view (TDoc.c a1)),.d (.view (TRef.c a2))] H fun v h'=>v=.a (.d (.bool r))/\h'=H)/\(∀{a0:TDoc}{a1:TDef}{a2:Z9}{r:Bool},Z30_n n a0 a1 a2=some r->∀(H:Heap),ACalls Tryz.prog 131 [.agg (TDoc.c a0),.agg (TDef.c a1),.agg (Z9.c a2)] H fun v h'=>v=.a (.d (.bool r))/\h'=H)
 | 0=>⟨fun hE=>by first|cases hE|(rw [fields_fits_n] at hE; cases hE),fun hE=>by first|cases hE|(rw [fields_fits_1_n] at hE; cases hE),fun hE=>by first|cases hE|(rw [Z30_n] at hE; cases hE)⟩
 | n+1=>⟨fields_fits_step n (fields_fits_all n).1 (fields_fits_all n).2.1 (fields_fits_all n).2.2,fields_fits_1_step n (fields_fits_all n).1 (fields_fits_all n).2.1 (fields_fits_all n).2.2,Z30_step n (fields_fits_all n).1 (fields_fits_all n).2.1 (fields_fits_all n).2.2⟩
def fields_fits (a0:TDoc) (a1:TRef) (a2:Z9):Option Bool:=fields_fits_n F0 a0 a1 a2
theorem fields_fits_walk {a0:TDoc}{a1:TRef}{a2:Z9}{r:Bool}(hE:fields_fits a0 a1 a2=some r) (H:Heap) :ACalls Tryz.prog 113 [.agg (TDoc.c a0),.agg (TRef.c a1),.agg (Z9.c a2)] H fun v h'=>v=.a (.d (.bool r))/\h'=H:=(fields_fits_all F0).1 hE H 
def Z25_j9 (s20_4:Nat) (k_next_3:Nat->Z0->Option Z0) (y10_c0:Z0):Option Z0:=k_next_3 (s20_4+1) y10_c0
def Z25_l3 (a1:(Sl Z6)) (a2:(Sl TArg)) (a3:Bool) (a4:Bs) :Nat->Nat->Z0->Option Z0
 | 0,_,_=>none
 | n3+1,s20_4,y5_c0=>bif (decide (((s20_4:Nat):Int)<((a2.l.length:Nat):Int))) then((a2.l[s20_4]?).bind fun x12=>(Z79 a1 x12.FName).bind fun x14=>(partC a2 none (some ((s20_4:Nat):Int))).bind fun x16=>(Z28 x16 x12.FName).bind fun x17=>bif ((!x14.2)||x17.2) then((Z21 y5_c0 true (22:Int) a4).bind fun x22=>Z25_j9 s20_4 ((Z25_l3 a1 a2 a3 a4 n3)) x22) else((fields_fits y5_c0.Fd x14.1.FType x12.FValue).bind fun x23=>(Z21 y5_c0 ((!x23)||(a3&&(((decide (x12.FValue.FKind=(7:Int)))||((decide (x12.FValue.FKind=(3:Int)))&&((x12.FValue.FText==([]:Bs)))))||((decide (x12.FValue.FKind=(2:Int)))&&(decide (x12.FValue.FInt<(0:Int))))))) (23:Int) a4).bind fun x24=>Z25_j9 s20_4 ((Z25_l3 a1 a2 a3 a4 n3)) x24)) else(some y5_c0)
def Z25 (a0:Z0) (a1:(Sl Z6)) (a2:(Sl TArg)) (a3:Bool) (a4:Bs):Option Z0:=Z25_l3 a1 a2 a3 a4 (a2.l.length+1) 0 a0
theorem Z25_walk {a0:Z0}{a1:Sl Z6}{a2:Sl TArg}{a3:Bool}{a4:Bs}{w1 w2:Option Nat}{c0 c0_2:Nat}{r:Z0}(hE:Z25 a0 a1 a2 a3 a4=some r) (H:Heap) (hc0:H c0=some (.cells (Z0.cg (some c0_2) a0))) (ht0_2:H c0_2=some (.tok 2 a0.Fout.l.length)):ACalls Tryz.prog 91 [.d (.ptr c0 0),.d (Sl.d 10 Z6.c w1 a1),.d (Sl.d 6 TArg.c w2 a2),.d (.bool a3),.d (.str a4)] H fun v h'=>v=.tup []/\h'=((H.set c0_2 (some (.tok 2 r.Fout.l.length))).set c0 (some (.cells (Z0.cg (some c0_2) r)))):=by
 unfold Z25 at hE;refine ACalls.oW 94 [] Tryz.call91 Tryz.func91 ?_;have ne_c0_c0_2:c0≠c0_2:=fun e_=>by subst e_; simp_all
 refine AWp.heqA (h':=((H.set c0_2 (some (.tok 2 a0.Fout.l.length))).set c0 (some (.cells (Z0.cg (some c0_2) a0))))) (by funext n_; simp only [Heap.set]; (repeat' split)<;>simp_all) ?_;refine seqR (S Mv ?_);refine sLen (f:=TArg.c) (s:=a2) (TK rfl) rfl rfl rfl rfl fun hL2=>?_;refine S Mv (nil ?_);refine block ?_;refine loopH (TA 0 (TA 1 (TA 2 (TA 3 (TA 4 (TA 18 (TA 19 KeepsT.nil))))))) (fun(z:Nat×Nat×Z0)=>[(20,.a (.d (.int .i64 ((z.2.1:Nat):Int))))]) (fun z=>((H.set c0_2 (some (.tok 2 z.2.2.Fout.l.length))).set c0 (some (.cells (Z0.cg (some c0_2) z.2.2))))) (fun z=>z.1) (fun z=>Z25_l3 a1 a2 a3 a4 z.1 z.2.1 z.2.2=some r) ((a2.l.length+1),0,a0) hE Weak.toA ?_
 rintro ⟨n3,s20_4,y5_c0⟩ hE K3 hK3;try dsimp only at hE
 cases n3 with
 | zero=>cases hE
 | succ n3 =>
   rw [Z25_l3] at hE;refine seqR (S BI (nil ?_));refine seqK fun K7 hK7=>?_;refine cE hE (fun hc8 hE=>?_) (fun hc8 hE=>?_)
   ·try dsimp only at hc8
    have hf8:=of_decide_eq_true hc8;refine sk hK7 ?_;clear hK7 K7;refine seqJH (TA 0 (TA 1 (TA 2 (TA 3 (TA 4 (TA 18 (TA 19 (TA 20 KeepsT.nil)))))))) (fun(z:Z0)=>[]) (fun z=>((H.set c0_2 (some (.tok 2 z.Fout.l.length))).set c0 (some (.cells (Z0.cg (some c0_2) z))))) (fun z=>Z25_j9 s20_4 ((Z25_l3 a1 a2 a3 a4 n3)) z=some r) ?_ ?_
    ·intro K9 hK9;refine block ?_;refine seqR (S Mv ?_);obtain⟨x12,gx12,hE⟩:=bO hE;refine S (ix TArg.c s20_4 gx12) (S Ld ?_);refine Sl ?_;refine S As ?_;refine Sf ?_;refine nil ?_;refine freezeA 11 _ rfl (KA 0 (KA 1 (KA 2 (KA 3 (KA 4 (KA 10 (KA 18 (KA 19 (KA 20 Keeps.nil))))))))) ?_;refine seqR (S Mv (S Fv (S Ld ?_)));obtain⟨x14,gx14,hE⟩:=bO hE;refine Sc rfl rfl (Z79_walk gx14) ?_;refine S Mv (S EX (S EX ?_))
     refine Sl ?_;refine Sf ?_;refine S As (nil ?_);refine freezeA 12 _ rfl (KA 0 (KA 1 (KA 2 (KA 3 (KA 4 (KA 10 (KA 11 (KA 13 (KA 18 (KA 19 (KA 20 Keeps.nil))))))))))) ?_;refine AWp.seqD (Sd Mv (Sd Mv ?_));obtain⟨x16,gx16,hE⟩:=bO hE;refine DOps.s0 (partM (f:=TArg.c) (l:=none) (r:=(some ((s20_4:Nat):Int))) (TK rfl) rfl (TK rfl) rfl rfl trivial rfl gx16) rfl ?_;refine Sd Fv (Sd Ld ?_);obtain⟨x17,gx17,hE⟩:=bO hE
     refine Scd rfl rfl (Z28_walk gx17) ?_;refine Sd Mv (Sd EX (Sd EX ?_));refine DOps.sB (TK rfl) rfl rfl ?_ (by repeat (first|exact Snoc.nil|apply Snoc.cons));refine DOps.sLn (storeLFA (TK rfl) rfl rfl rfl rfl rfl) ?_;refine Sd As ?_;refine DOps.nil (by decide +kernel) ?_;refine freezeA 14 _ rfl (KA 0 (KA 1 (KA 2 (KA 3 (KA 4 (KA 11 (KA 12 (KA 13 (KA 15 (KA 18 (KA 19 (KA 20 Keeps.nil)))))))))))) ?_
     refine seqR (S Fv (S Ld ?_));refine Sl ?_;refine Sf ?_;refine nil ?_;refine freezeA 16 _ rfl (KA 0 (KA 1 (KA 2 (KA 3 (KA 4 (KA 12 (KA 13 (KA 15 (KA 18 (KA 19 (KA 20 Keeps.nil))))))))))) ?_;refine seqR (S Fv (S Ld (S BI (S Mv (G0 Fv ?_)))));refine G1 47 rfl Ld ?_;refine G1 48 rfl BI ?_;refine G1 49 rfl Mv ?_;refine G0 Fv ?_;refine G1 51 rfl Ld ?_;refine G1 52 rfl BS ?_;refine gC rfl rfl (fun hC=>ungdA (k:=50) rfl (pickAndA rfl rfl rfl)) rfl ?_
     refine S PO (S Mv (G0 Fv ?_));refine G1 57 rfl Ld ?_;refine G1 58 rfl BI ?_;refine G1 59 rfl Mv ?_;refine G0 Fv ?_;refine G1 61 rfl Ld ?_;refine G1 62 rfl BI ?_;refine gC rfl rfl (fun hC=>ungdA (k:=60) rfl (pickAndA rfl rfl rfl)) rfl ?_;refine S PO (S As (nil ?_));refine block ?_;refine seqR (S Mv (S NB (S Mv (G0 Mv (S PO (S As (nil ?_)))))));refine cE hE (fun hc21 hE=>?_) (fun hc21 hE=>?_)
     ·refine region ?_;refine S Mv (S Mv ?_);obtain⟨x22,gx22,hE⟩:=bO hE;refine sH (callH rfl rfl (Z21_walk gx22 _ hpG hpG)) rfl ?_;refine hq ((H.set c0_2 (some (.tok 2 x22.Fout.l.length))).set c0 (some (.cells (Z0.cg (some c0_2) x22)))) ?_;refine nil ?_;exact hK9 _ x22 Weak.toA hE
     refine AWp.draw rfl ?_;refine Sd Mv (Sd Mv (Sd NP ?_));refine DOps.s0 (fieldP (TK rfl) rfl rfl (TK rfl) rfl rfl) rfl ?_;refine DOps.s0 (loadP (TK rfl) rfl rfl hpG rfl) rfl ?_;refine Sd Fv (Sd Ld (Sd Ld ?_));obtain⟨x23,gx23,hE⟩:=bO hE;refine Scd rfl rfl (fields_fits_walk gx23) ?_;refine Sd NB (Sd Mv (G0d Mv ?_));refine G1d 77 rfl Mv ?_;refine G0d Mv ?_;refine DOps.gC rfl rfl (fun hC=>ungdA (k:=78) rfl (pickAndA rfl rfl rfl)) rfl ?_
     refine Sd PO (Sd Mv ?_);obtain⟨x24,gx24,hE⟩:=bO hE;refine DOps.sH (callH rfl rfl (Z21_walk gx24 _ hpG hpG)) rfl ?_;refine DOps.Dh ((H.set c0_2 (some (.tok 2 x24.Fout.l.length))).set c0 (some (.cells (Z0.cg (some c0_2) x24)))) ?_;refine DOps.nil (by decide +kernel) ?_;exact hK9 _ x24 Weak.toA hE
    rintro y10_c0 hE;try dsimp only at hE
    unfold Z25_j9 at hE;refine region ?_;refine SI ?_;refine S Mv (nil ?_);exact hK3 _ (n3,(s20_4+1),y10_c0) Weak.toA hE (Nat.lt_succ_self _)
   refine AWp.exit ?_;repeat (first|refine xBlock_normal ?_|refine xThen_exit ?_|refine xBlock_exit ?_)
   obtain rfl:=Option.some.inj hE;refine retQ.normalF ((H.set c0_2 (some (.tok 2 y5_c0.Fout.l.length))).set c0 (some (.cells (Z0.cg (some c0_2) y5_c0)))) (xs:=[]) rfl ⟨rfl,rfl⟩ ?_;exact(fun _ _ h=>h)
end Go.Proofs

namespace Go.Proofs
open Go Go.Ab
open AOps Cert AWp Keeps KeepsT
variable {lou:Lou}
def Z22_j10 (s21_5:Nat) (k_next_4:Nat->Z0->Option Z0) (y11_c0:Z0):Option Z0:=k_next_4 (s21_5+1) y11_c0
def Z22_l30 (a4:Bs) (s21_5:Nat) (x13:TDir) (s13_18:(Sl Z6)) (k_next_4:Nat->Z0->Option Z0):Nat->Nat->Z0->Option Z0
 | 0,_,_=>none
 | n30+1,s78_31,y32_c0=>bif (decide (((s78_31:Nat):Int)<((s13_18.l.length:Nat):Int))) then((s13_18.l[s78_31]?).bind fun x38=>(Z28 x13.FArgs x38.FName).bind fun x40=>(Z21 y32_c0 (!x40.2) (22:Int) a4).bind fun x41=>(Z22_l30 a4 s21_5 x13 s13_18 k_next_4 n30) (s78_31+1) x41) else(Z22_j10 s21_5 k_next_4 y32_c0)
def Z22_j17 (a1:TSel) (a4:Bs) (s21_5:Nat) (y6_c0:Z0) (x13:TDir) (k_next_4:Nat->Z0->Option Z0) (s13_18:(Sl Z6)):Option Z0:=guardO (!s13_18.nl) (partC a1.FDirs none (some ((s21_5:Nat):Int))) (Sl.nil:Sl TDir) fun x21=>guardO (!s13_18.nl) (Z98 x21 (fun y0=>Z23 y0 x13)) false fun x22=>bif (s13_18.nl||x22) then((Z21 y6_c0 true (29:Int) a4).bind fun x25=>Z22_j10 s21_5 k_next_4 x25) else((Z25 y6_c0 s13_18 x13.FArgs (((x13.FName==([100,101,102,101,114]:Bs)))||((x13.FName==([115,116,114,101,97,109]:Bs)))) a4).bind fun x27=>Z22_l30 a4 s21_5 x13 s13_18 k_next_4 (s13_18.l.length+1) 0 x27)
def Z22_l4 (a1:TSel) (a2:TRef) (a3:Bool) (a4:Bs) :Nat->Nat->Z0->Option Z0
 | 0,_,_=>none
 | n4+1,s21_5,y6_c0=>bif (decide (((s21_5:Nat):Int)<((a1.FDirs.l.length:Nat):Int))) then((a1.FDirs.l[s21_5]?).bind fun x13=>(Z20 x13.FName ((!decide (a1.FKind=(2:Int)))&&(!decide (a1.FKind=(3:Int))))).bind fun x16=>guardO ((((x13.FName==([115,116,114,101,97,109]:Bs)))&&a3)) (Z115 a2) false fun x43=>bif ((((x13.FName==([115,116,114,101,97,109]:Bs)))&&a3)&&(!x43)) then(Z22_j17 a1 a4 s21_5 y6_c0 x13 ((Z22_l4 a1 a2 a3 a4 n4)) (Sl.nil:Sl Z6)) else(Z22_j17 a1 a4 s21_5 y6_c0 x13 ((Z22_l4 a1 a2 a3 a4 n4)) x16)) else(some y6_c0)
def Z22 (a0:Z0) (a1:TSel) (a2:TRef) (a3:Bool) (a4:Bs):Option Z0:=Z22_l4 a1 a2 a3 a4 (a1.FDirs.l.length+1) 0 a0
theorem Z22_walk {a0:Z0}{a1:TSel}{a2:TRef}{a3:Bool}{a4:Bs}{c0 c0_2:Nat}{r:Z0}(hE:Z22 a0 a1 a2 a3 a4=some r) (H:Heap) (hc0:H c0=some (.cells (Z0.cg (some c0_2) a0))) (ht0_2:H c0_2=some (.tok 2 a0.Fout.l.length)):ACalls Tryz.prog 55 [.d (.ptr c0 0),.agg (TSel.c a1),.agg (TRef.c a2),.d (.bool a3),.d (.str a4)] H fun v h'=>v=.tup []/\h'=((H.set c0_2 (some (.tok 2 r.Fout.l.length))).set c0 (some (.cells (Z0.cg (some c0_2) r)))):=by
 unfold Z22 at hE;refine ACalls.oW 97 [] Tryz.call55 Tryz.func55 ?_;have ne_c0_c0_2:c0≠c0_2:=fun e_=>by subst e_; simp_all
 refine AWp.heqA (h':=((H.set c0_2 (some (.tok 2 a0.Fout.l.length))).set c0 (some (.cells (Z0.cg (some c0_2) a0))))) (by funext n_; simp only [Heap.set]; (repeat' split)<;>simp_all) ?_;refine seqR (S BX (S BX (nil ?_)));refine seqR (S Fv (S Ld ?_));refine sLen (f:=TDir.c) (s:=a1.FDirs) (TK rfl) rfl rfl rfl rfl fun hL3=>?_;refine S Mv (nil ?_);refine block ?_;refine loopH (TA 0 (TA 3 (TA 4 (TA 6 (TA 7 (TA 19 (TA 20 KeepsT.nil))))))) (fun(z:Nat×Nat×Z0)=>[(21,.a (.d (.int .i64 ((z.2.1:Nat):Int))))]) (fun z=>((H.set c0_2 (some (.tok 2 z.2.2.Fout.l.length))).set c0 (some (.cells (Z0.cg (some c0_2) z.2.2))))) (fun z=>z.1) (fun z=>Z22_l4 a1 a2 a3 a4 z.1 z.2.1 z.2.2=some r) ((a1.FDirs.l.length+1),0,a0) hE Weak.toA ?_
 rintro ⟨n4,s21_5,y6_c0⟩ hE K4 hK4;try dsimp only at hE
 cases n4 with
 | zero=>cases hE
 | succ n4 =>
   rw [Z22_l4] at hE;refine seqR (S BI (nil ?_));refine seqK fun K8 hK8=>?_;refine cE hE (fun hc9 hE=>?_) (fun hc9 hE=>?_)
   ·try dsimp only at hc9
    have hf9:=of_decide_eq_true hc9;refine sk hK8 ?_;clear hK8 K8;refine seqJH (TA 0 (TA 3 (TA 4 (TA 6 (TA 7 (TA 19 (TA 20 (TA 21 KeepsT.nil)))))))) (fun(z:Z0)=>[]) (fun z=>((H.set c0_2 (some (.tok 2 z.Fout.l.length))).set c0 (some (.cells (Z0.cg (some c0_2) z))))) (fun z=>Z22_j10 s21_5 ((Z22_l4 a1 a2 a3 a4 n4)) z=some r) ?_ ?_
    ·intro K10 hK10;refine block ?_;refine seqR (S Mv ?_);obtain⟨x13,gx13,hE⟩:=bO hE;refine S (ix TDir.c s21_5 gx13) (S Ld ?_);refine Sl ?_;refine S As ?_;refine Sf ?_;refine nil ?_;refine freezeA 11 _ rfl (KA 0 (KA 3 (KA 4 (KA 6 (KA 7 (KA 10 (KA 19 (KA 20 (KA 21 Keeps.nil))))))))) ?_;refine seqR (S Fv (S Ld (S BI (S Mv (G0 Fv ?_)))));refine G1 30 rfl Ld ?_;refine G1 31 rfl BI ?_;refine S PA (S As (nil ?_))
     refine seqR (S Fv (S Ld (S Mv ?_)));obtain⟨x16,gx16,hE⟩:=bO hE;refine Sc rfl rfl (Z20_walk gx16) ?_;refine S As (nil ?_);refine seqJH (TA 0 (TA 3 (TA 4 (TA 6 (TA 7 (TA 10 (TA 11 (TA 19 (TA 20 (TA 21 KeepsT.nil)))))))))) (fun(z:(Sl Z6))=>[(13,.a (.d (Sl.d 10 Z6.c none z)))]) (fun z=>((H.set c0_2 (some (.tok 2 y6_c0.Fout.l.length))).set c0 (some (.cells (Z0.cg (some c0_2) y6_c0))))) (fun z=>Z22_j17 a1 a4 s21_5 y6_c0 x13 ((Z22_l4 a1 a2 a3 a4 n4)) z=some r) ?_ ?_
     ·intro K17 hK17;refine seqR (S Fv (S Ld (S BS (S Mv (G0 Mv (S PA (S Mv (G0 Ld ?_))))))));obtain⟨x43,gx43,hE⟩:=gO hE;refine Gc1 45 rfl rfl rfl rfl rfl (fun hC=>Z115_walk (gx43 hC)) ?_;refine G1 46 rfl NB ?_;refine S PA (nil ?_);refine cE hE (fun hc44 hE=>?_) (fun hc44 hE=>?_)
      ·refine region ?_;refine s0 (assignNil (k':=10) rfl) rfl ?_;refine nil ?_;exact hK17 _ (Sl.nil:Sl Z6) Weak.toA hE
      refine AWp.skip ?_;exact hK17 _ x16 Weak.toA hE
     rintro s13_18 hE;try dsimp only at hE
     unfold Z22_j17 at hE;refine seqK fun K19 hK19=>?_;refine seqR (S Mv ?_);refine s0 (eqNil (TK rfl) rfl rfl) rfl ?_;refine S Mv (G0 Fv ?_);refine G1 52 rfl Ld ?_;refine G0 Mv ?_;obtain⟨x21,gx21,hE⟩:=gO hE;refine gC rfl rfl (fun hC=>ungdA (k:=53) rfl (ungdA (k:=54) rfl (partM (f:=TDir.c) (l:=none) (r:=(some ((s21_5:Nat):Int))) (TK rfl) rfl (TK rfl) rfl rfl trivial rfl (gx21 hC)))) rfl ?_;refine gC rfl rfl (fun hC=>makeFunc rfl) rfl ?_
     obtain⟨x22,gx22,hE⟩:=gO hE;refine gC rfl rfl (fun hC=>ungdA (k:=55) rfl (ungdA (k:=56) rfl (callP rfl rfl (fun H=>Z98_walk (gx22 hC) H (fun _ _ hx=>Z23_walk hx))))) rfl ?_;refine S PO (nil ?_);refine cE hE (fun hc23 hE=>?_) (fun hc23 hE=>?_)
     ·refine seqR (S Mv (S Mv ?_));obtain⟨x25,gx25,hE⟩:=bO hE;refine sH (callH rfl rfl (Z21_walk gx25 _ hpG hpG)) rfl ?_;refine hq ((H.set c0_2 (some (.tok 2 x25.Fout.l.length))).set c0 (some (.cells (Z0.cg (some c0_2) x25)))) ?_;refine nil ?_;refine AWp.exit ?_;exact hK10 _ x25 Weak.toA hE
     refine sk hK19 ?_;clear hK19 K19;refine seqR (S Mv (S Mv (S Fv (S Ld (S Fv (S Ld (S BS (S Mv (G0 Fv ?_)))))))));refine G1 70 rfl Ld ?_;refine G1 71 rfl BS ?_;refine S PO (S Mv ?_);obtain⟨x27,gx27,hE⟩:=bO hE;refine sH (callH rfl rfl (Z25_walk gx27 _ hpG hpG)) rfl ?_;refine hq ((H.set c0_2 (some (.tok 2 x27.Fout.l.length))).set c0 (some (.cells (Z0.cg (some c0_2) x27)))) ?_;refine nil ?_;refine seqR (S Mv ?_)
     refine sLen (f:=Z6.c) (s:=s13_18) (TK rfl) rfl rfl rfl rfl fun hL29=>?_;refine S Mv (nil ?_);refine block ?_;refine loopH (TA 0 (TA 3 (TA 4 (TA 6 (TA 7 (TA 11 (TA 19 (TA 20 (TA 21 (TA 76 (TA 77 KeepsT.nil))))))))))) (fun(z:Nat×Nat×Z0)=>[(78,.a (.d (.int .i64 ((z.2.1:Nat):Int))))]) (fun z=>((H.set c0_2 (some (.tok 2 z.2.2.Fout.l.length))).set c0 (some (.cells (Z0.cg (some c0_2) z.2.2))))) (fun z=>z.1) (fun z=>Z22_l30 a4 s21_5 x13 s13_18 ((Z22_l4 a1 a2 a3 a4 n4)) z.1 z.2.1 z.2.2=some r) ((s13_18.l.length+1),0,x27) hE Weak.toA ?_
     rintro ⟨n30,s78_31,y32_c0⟩ hE K30 hK30;try dsimp only at hE
     cases n30 with
     | zero=>cases hE
     | succ n30 =>
       rw [Z22_l30] at hE;refine seqR (S BI (nil ?_));refine seqK fun K34 hK34=>?_;refine cE hE (fun hc35 hE=>?_) (fun hc35 hE=>?_)
       ·try dsimp only at hc35
        have hf35:=of_decide_eq_true hc35;refine sk hK34 ?_;clear hK34 K34;refine seqK fun K36 hK36=>?_;refine block ?_;refine seqR ?_;obtain⟨x38,gx38,hE⟩:=bO hE;refine S (ix Z6.c s78_31 gx38) (S Ld ?_);refine Sl ?_;refine Sf ?_;refine nil ?_;refine freezeA 15 _ rfl (KA 0 (KA 3 (KA 4 (KA 6 (KA 7 (KA 11 (KA 19 (KA 20 (KA 21 (KA 76 (KA 77 (KA 78 Keeps.nil)))))))))))) ?_;refine seqR (S Fv (S Ld (S Fv (S Ld ?_))))
        obtain⟨x40,gx40,hE⟩:=bO hE;refine Sc rfl rfl (Z28_walk gx40) ?_;refine S Mv (S EX (S EX ?_));refine Sl ?_;refine Sf ?_;refine S As (nil ?_);refine freezeA 16 _ rfl (KA 0 (KA 3 (KA 4 (KA 6 (KA 7 (KA 11 (KA 17 (KA 19 (KA 20 (KA 21 (KA 76 (KA 77 (KA 78 Keeps.nil))))))))))))) ?_;refine region ?_;refine S Mv (S Mv (S NB (S Mv ?_)));obtain⟨x41,gx41,hE⟩:=bO hE;refine sH (callH rfl rfl (Z21_walk gx41 _ hpG hpG)) rfl ?_
        refine hq ((H.set c0_2 (some (.tok 2 x41.Fout.l.length))).set c0 (some (.cells (Z0.cg (some c0_2) x41)))) ?_;refine nil ?_;refine hK36 _ ?_;clear hK36 K36;refine region ?_;refine SI ?_;refine S Mv (nil ?_);exact hK30 _ (n30,(s78_31+1),x41) Weak.toA hE (Nat.lt_succ_self _)
       refine AWp.exit ?_;exact hK10 _ y32_c0 Weak.toA hE
    rintro y11_c0 hE;try dsimp only at hE
    unfold Z22_j10 at hE;refine region ?_;refine SI ?_;refine S Mv (nil ?_);exact hK4 _ (n4,(s21_5+1),y11_c0) Weak.toA hE (Nat.lt_succ_self _)
   refine AWp.exit ?_;repeat (first|refine xBlock_normal ?_|refine xThen_exit ?_|refine xBlock_exit ?_)
   obtain rfl:=Option.some.inj hE;refine retQ.normalF ((H.set c0_2 (some (.tok 2 y6_c0.Fout.l.length))).set c0 (some (.cells (Z0.cg (some c0_2) y6_c0)))) (xs:=[]) rfl ⟨rfl,rfl⟩ ?_;exact(fun _ _ h=>h)
def Z19 (a0:TDoc) (a1:Bs) (a2:Bs):Option (TRef×Bool):=(Z76 a0 a1).bind fun x4=>bif (!x4) then(some ((TRef.mk ([]:Bs) (Sl.nil:Sl Int)),false)) else(bif ((a2==([95,95,116,121,112,101,110,97,109,101]:Bs))) then((Z117 ([83,116,114,105,110,103]:Bs)).bind fun x11=>(Z118 x11).bind fun x12=>some (x12,true)) else((Z78 a0 a1).bind fun x14=>(Z77 x14.1 a2).bind fun x16=>bif (!x16.2) then(some ((TRef.mk ([]:Bs) (Sl.nil:Sl Int)),false)) else((Z95 x16.1.FType.FWraps).bind fun x22=>some ((TRef.mk x16.1.FType.FName x22),true))))
theorem Z19_walk {a0:TDoc}{a1 a2:Bs}{r:TRef×Bool}(hE:Z19 a0 a1 a2=some r) (H:Heap) :ACalls Tryz.prog 37 [.agg (TDoc.c a0),.d (.str a1),.d (.str a2)] H fun v h'=>v=.tup [.agg (TRef.c r.1),.d (.bool r.2)]/\h'=H:=by
 unfold Z19 at hE;refine ACalls.oW 44 [.cell 6 92,.tmp 7] Tryz.call37 Tryz.func37 ?_;refine seqR (S BX ?_);refine Sl ?_;refine S As (nil ?_);refine seqK fun K2 hK2=>?_;refine seqR (S Ld (S Mv ?_));obtain⟨x4,gx4,hE⟩:=bO hE;refine Sc rfl rfl (Z76_walk gx4) ?_;refine S NB (nil ?_);refine cE hE (fun hc5 hE=>?_) (fun hc5 hE=>?_)
 ·refine seqR (S BU ?_);refine Sf ?_;refine S As (nil ?_);exact rt hE
 refine sk hK2 ?_;clear hK2 K2;refine seqK fun K7 hK7=>?_;refine seqR (S Mv (S BS (nil ?_)));refine cE hE (fun hc9 hE=>?_) (fun hc9 hE=>?_)
 ·refine seqR ?_;obtain⟨x11,gx11,hE⟩:=bO hE;refine Sc rfl rfl (Z117_walk gx11) ?_;obtain⟨x12,gx12,hE⟩:=bO hE;refine Sc rfl rfl (Z118_walk gx12) ?_;refine Sf ?_;refine S As (nil ?_);exact rt hE
 refine sk hK7 ?_;clear hK7 K7;refine seqR (S Ld (S Mv ?_));obtain⟨x14,gx14,hE⟩:=bO hE;refine Sc rfl rfl (Z78_walk gx14) ?_;refine S Mv (S EX (S EX ?_));refine Sl ?_;refine Sf ?_;refine S As (nil ?_);refine freezeA 8 _ rfl (KA 2 (KA 6 Keeps.nil)) ?_;refine seqR (S Ld (S Mv ?_));obtain⟨x16,gx16,hE⟩:=bO hE;refine Sc rfl rfl (Z77_walk gx16) ?_;refine S Mv (S EX (S EX ?_));refine Sl ?_;refine Sf ?_;refine S As (nil ?_)
 refine freezeA 10 _ rfl (KA 6 (KA 11 Keeps.nil)) ?_;refine seqK fun K17 hK17=>?_;refine seqR (S Mv (S NB (nil ?_)));refine cE hE (fun hc19 hE=>?_) (fun hc19 hE=>?_)
 ·refine seqR (S BU ?_);refine Sf ?_;refine S As (nil ?_);exact rt hE
 refine sk hK17 ?_;clear hK17 K17;refine AWp.seqD (Sd Fv (Sd Fv (Sd Ld (Sd Fv (Sd Fv (Sd Ld ?_))))));obtain⟨x22,gx22,hE⟩:=bO hE;refine Scd rfl rfl (Z95_walk gx22) ?_;refine Sd BU ?_;refine DOps.sLn (storeLFA (TK rfl) rfl rfl rfl rfl rfl) ?_;refine Sd As ?_;refine DOps.nil (by decide +kernel) ?_;exact rt hE
end Go.Proofs

namespace Go.Proofs
open Go Go.Ab
open AOps Cert AWp Keeps KeepsT
variable {lou:Lou}
def fields_checker_sels_j9 (s13_4:Nat) (k_next_3:Nat->Z0->Option Z0) (y10_c0:Z0):Option Z0:=k_next_3 (s13_4+1) y10_c0
def fields_checker_sels_j22 (a3:Bs) (s13_4:Nat) (x12:TSel) (x20:Z0) (k_next_3:Nat->Z0->Option Z0) (k_rec_29:Z0->(Sl TSel)->Bs->Bs->Option Z0) (s10_23:Bs):Option Z0:=(k_rec_29 x20 x12.FSels s10_23 a3).bind fun x24=>fields_checker_sels_j9 s13_4 k_next_3 x24
def fields_checker_sels_l3 (a1:(Sl TSel)) (a2:Bs) (a3:Bs) (k_rec_29:Z0->(Sl TSel)->Bs->Bs->Option Z0) (k_rec_56:Z0->TSel->Bs->Bs->Option Z0):Nat->Nat->Z0->Option Z0
 | 0,_,_=>none
 | n3+1,s13_4,y5_c0=>bif (decide (((s13_4:Nat):Int)<((a1.l.length:Nat):Int))) then((a1.l[s13_4]?).bind fun x12=>bif (decide (x12.FKind=(2:Int))) then((Z22 y5_c0 x12 (TRef.mk ([]:Bs) (Sl.nil:Sl Int)) false a3).bind fun x16=>fields_checker_sels_j9 s13_4 ((fields_checker_sels_l3 a1 a2 a3 k_rec_29 k_rec_56 n3)) x16) else(bif (decide (x12.FKind=(3:Int))) then((Z22 y5_c0 x12 (TRef.mk ([]:Bs) (Sl.nil:Sl Int)) false a3).bind fun x20=>bif (!(x12.FOn==([]:Bs))) then(fields_checker_sels_j22 a3 s13_4 x12 x20 ((fields_checker_sels_l3 a1 a2 a3 k_rec_29 k_rec_56 n3)) k_rec_29 x12.FOn) else(fields_checker_sels_j22 a3 s13_4 x12 x20 ((fields_checker_sels_l3 a1 a2 a3 k_rec_29 k_rec_56 n3)) k_rec_29 a2)) else((k_rec_56 y5_c0 x12 a2 a3).bind fun x27=>fields_checker_sels_j9 s13_4 ((fields_checker_sels_l3 a1 a2 a3 k_rec_29 k_rec_56 n3)) x27))) else(some y5_c0)
def Z24_j16 (a1:TSel) (x7:Bs) (x12:(TRef×Bool)) (k_rec_29:Z0->(Sl TSel)->Bs->Bs->Option Z0) (y17_c0:Z0):Option Z0:=(Z22 y17_c0 a1 x12.1 x12.2 x7).bind fun x19=>(k_rec_29 x19 a1.FSels x12.1.FName x7).bind fun x20=>some x20
def Z24_l37 (a1:TSel) (x7:Bs) (x12:(TRef×Bool)) (y32_l0:Z4) (k_rec_29:Z0->(Sl TSel)->Bs->Bs->Option Z0):Nat->Nat->Z0->Option Z0
 | 0,_,_=>none
 | n37+1,s122_38,y39_c0=>bif (decide (((s122_38:Nat):Int)<((y32_l0.FArgs.l.length:Nat):Int))) then((y32_l0.FArgs.l[s122_38]?).bind fun x45=>(Z28 a1.FArgs x45.FName).bind fun x47=>(Z116 x45.FType).bind fun x48=>(Z21 y39_c0 ((x48&&(!x45.FHas))&&(!x47.2)) (22:Int) x7).bind fun x49=>(Z24_l37 a1 x7 x12 y32_l0 k_rec_29 n37) (s122_38+1) x49) else(Z24_j16 a1 x7 x12 k_rec_29 y39_c0)
def Z24_j31 (a1:TSel) (x7:Bs) (x12:(TRef×Bool)) (x27:Z0) (k_rec_29:Z0->(Sl TSel)->Bs->Bs->Option Z0) (y32_l0:Z4):Option Z0:=(Z25 x27 y32_l0.FArgs a1.FArgs false x7).bind fun x34=>Z24_l37 a1 x7 x12 y32_l0 k_rec_29 (y32_l0.FArgs.l.length+1) 0 x34
def Z24_j3 (a0:Z0) (a1:TSel) (a2:Bs) (a3:Bs) (k_rec_29:Z0->(Sl TSel)->Bs->Bs->Option Z0) (s8_4:Bs):Option Z0:=(catC ([47]:Bs) s8_4).bind fun x6=>(catC a3 x6).bind fun x7=>(Z113 a1.FAlias).bind fun x9=>(Z21 a0 x9 (6:Int) x7).bind fun x10=>(Z19 x10.Fd a2 a1.FName).bind fun x12=>guardO ((!x12.2)) (Z76 x10.Fd a2) false fun x14=>(Z21 x10 ((!x12.2)&&x14) (20:Int) x7).bind fun x15=>bif x12.2 then((Z81 x15.Fd x12.1.FName).bind fun x24=>guardO (!(x24&&(decide ((0:Int)<((a1.FSels.l.length:Nat):Int))))) (Z76 x15.Fd x12.1.FName) false fun x26=>(Z21 x15 ((x24&&(decide ((0:Int)<((a1.FSels.l.length:Nat):Int))))||(x26&&(decide (((a1.FSels.l.length:Nat):Int)=(0:Int))))) (21:Int) x7).bind fun x27=>(Z78 x27.Fd a2).bind fun x29=>bif (!(a1.FName==([95,95,116,121,112,101,110,97,109,101]:Bs))) then((Z77 x29.1 a1.FName).bind fun x52=>Z24_j31 a1 x7 x12 x27 k_rec_29 x52.1) else(Z24_j31 a1 x7 x12 x27 k_rec_29 (Z4.mk ([]:Bs) (Sl.nil:Sl Z6) TRef.zero (Sl.nil:Sl TDir)))) else(Z24_j16 a1 x7 x12 k_rec_29 x15)
mutual
def fields_checker_sels_n:Nat->Z0->(Sl TSel)->Bs->Bs->Option Z0
 | 0,_,_,_,_=>none
 | n+1,a0,a1,a2,a3=>fields_checker_sels_l3 a1 a2 a3 (fields_checker_sels_n n) (Z24_n n) (a1.l.length+1) 0 a0
def Z24_n:Nat->Z0->TSel->Bs->Bs->Option Z0
 | 0,_,_,_,_=>none
 | n+1,a0,a1,a2,a3=>bif ((a1.FAlias==([]:Bs))) then(Z24_j3 a0 a1 a2 a3 (fields_checker_sels_n n) a1.FName) else(Z24_j3 a0 a1 a2 a3 (fields_checker_sels_n n) a1.FAlias)
end
theorem fields_checker_sels_step (n:Nat) (ih_29:∀{a0:Z0}{a1:Sl TSel}{a2 a3:Bs}{w1:Option Nat}{c0 c0_2:Nat}{r:Z0},fields_checker_sels_n n a0 a1 a2 a3=some r->∀(H:Heap) (hc0:H c0=some (.cells (Z0.cg (some c0_2) a0))) (ht0_2:H c0_2=some (.tok 2 a0.Fout.l.length)),ACalls Tryz.prog 29 [.d (.ptr c0 0),.d (Sl.d 7 TSel.c w1 a1),.d (.str a2),.d (.str a3)] H fun v h'=>v=.tup []/\h'=((H.set c0_2 (some (.tok 2 r.Fout.l.length))).set c0 (some (.cells (Z0.cg (some c0_2) r))))) (ih_56:∀{a0:Z0}{a1:TSel}{a2 a3:Bs}{c0 c0_2:Nat}{r:Z0},Z24_n n a0 a1 a2 a3=some r->∀(H:Heap) (hc0:H c0=some (.cells (Z0.cg (some c0_2) a0))) (ht0_2:H c0_2=some (.tok 2 a0.Fout.l.length)),ACalls Tryz.prog 56 [.d (.ptr c0 0),.agg (TSel.c a1),.d (.str a2),.d (.str a3)] H fun v h'=>v=.tup []/\h'=((H.set c0_2 (some (.tok 2 r.Fout.l.length))).set c0 (some (.cells (Z0.cg (some c0_2) r))))):∀{a0:Z0}{a1:Sl TSel}{a2 a3:Bs}{w1:Option Nat}{c0 c0_2:Nat}{r:Z0},fields_checker_sels_n (n+1) a0 a1 a2 a3=some r->∀(H:Heap) (hc0:H c0=some (.cells (Z0.cg (some c0_2) a0))) (ht0_2:H c0_2=some (.tok 2 a0.Fout.l.length)),ACalls Tryz.prog 29 [.d (.ptr c0 0),.d (Sl.d 7 TSel.c w1 a1),.d (.str a2),.d (.str a3)] H fun v h'=>v=.tup []/\h'=((H.set c0_2 (some (.tok 2 r.Fout.l.length))).set c0 (some (.cells (Z0.cg (some c0_2) r)))):=by
 intro a0 a1 a2 a3 w1 c0 c0_2 r hE H hc0 ht0_2;rw [fields_checker_sels_n] at hE;refine ACalls.oW 51 [] Tryz.call29 Tryz.func29 ?_;have ne_c0_c0_2:c0≠c0_2:=fun e_=>by subst e_; simp_all
 refine AWp.heqA (h':=((H.set c0_2 (some (.tok 2 a0.Fout.l.length))).set c0 (some (.cells (Z0.cg (some c0_2) a0))))) (by funext n_; simp only [Heap.set]; (repeat' split)<;>simp_all) ?_;refine seqR (S Mv ?_);refine sLen (f:=TSel.c) (s:=a1) (TK rfl) rfl rfl rfl rfl fun hL2=>?_;refine S Mv (nil ?_);refine block ?_;refine loopH (TA 0 (TA 2 (TA 3 (TA 11 (TA 12 KeepsT.nil))))) (fun(z:Nat×Nat×Z0)=>[(13,.a (.d (.int .i64 ((z.2.1:Nat):Int))))]) (fun z=>((H.set c0_2 (some (.tok 2 z.2.2.Fout.l.length))).set c0 (some (.cells (Z0.cg (some c0_2) z.2.2))))) (fun z=>z.1) (fun z=>fields_checker_sels_l3 a1 a2 a3 (fields_checker_sels_n n) (Z24_n n) z.1 z.2.1 z.2.2=some r) ((a1.l.length+1),0,a0) hE Weak.toA ?_
 rintro ⟨n3,s13_4,y5_c0⟩ hE K3 hK3;try dsimp only at hE
 cases n3 with
 | zero=>cases hE
 | succ n3 =>
   rw [fields_checker_sels_l3] at hE;refine seqR (S BI (nil ?_));refine seqK fun K7 hK7=>?_;refine cE hE (fun hc8 hE=>?_) (fun hc8 hE=>?_)
   ·try dsimp only at hc8
    have hf8:=of_decide_eq_true hc8;refine sk hK7 ?_;clear hK7 K7;refine seqJH (TA 0 (TA 2 (TA 3 (TA 11 (TA 12 (TA 13 KeepsT.nil)))))) (fun(z:Z0)=>[]) (fun z=>((H.set c0_2 (some (.tok 2 z.Fout.l.length))).set c0 (some (.cells (Z0.cg (some c0_2) z))))) (fun z=>fields_checker_sels_j9 s13_4 ((fields_checker_sels_l3 a1 a2 a3 (fields_checker_sels_n n) (Z24_n n) n3)) z=some r) ?_ ?_
    ·intro K9 hK9;refine block ?_;refine seqR ?_;obtain⟨x12,gx12,hE⟩:=bO hE;refine S (ix TSel.c s13_4 gx12) (S Ld ?_);refine Sl ?_;refine Sf ?_;refine nil ?_;refine freezeA 9 _ rfl (KA 0 (KA 2 (KA 3 (KA 11 (KA 12 (KA 13 Keeps.nil)))))) ?_;refine seqR (S Fv (S Ld (nil ?_)));refine block ?_;refine seqR (S BI (S As (nil ?_)));refine cE hE (fun hc15 hE=>?_) (fun hc15 hE=>?_)
     ·refine region ?_;refine S Mv (S Ld (S BU (S Mv ?_)));obtain⟨x16,gx16,hE⟩:=bO hE;refine sH (callH rfl rfl (Z22_walk gx16 _ hpG hpG)) rfl ?_;refine hq ((H.set c0_2 (some (.tok 2 x16.Fout.l.length))).set c0 (some (.cells (Z0.cg (some c0_2) x16)))) ?_;refine nil ?_;exact hK9 _ x16 Weak.toA hE
     refine seqR (S BI (S As (nil ?_)));refine cE hE (fun hc18 hE=>?_) (fun hc18 hE=>?_)
     ·refine seqR (S Mv (S Ld (S BU (S Mv ?_))));obtain⟨x20,gx20,hE⟩:=bO hE;refine sH (callH rfl rfl (Z22_walk gx20 _ hpG hpG)) rfl ?_;refine hq ((H.set c0_2 (some (.tok 2 x20.Fout.l.length))).set c0 (some (.cells (Z0.cg (some c0_2) x20)))) ?_;refine nil ?_;refine seqR (S Mv (S As (nil ?_)));refine seqJH (TA 0 (TA 2 (TA 3 (TA 9 (TA 11 (TA 12 (TA 13 KeepsT.nil))))))) (fun(z:Bs)=>[(10,.a (.d (.str z)))]) (fun z=>((H.set c0_2 (some (.tok 2 x20.Fout.l.length))).set c0 (some (.cells (Z0.cg (some c0_2) x20))))) (fun z=>fields_checker_sels_j22 a3 s13_4 x12 x20 ((fields_checker_sels_l3 a1 a2 a3 (fields_checker_sels_n n) (Z24_n n) n3)) (fields_checker_sels_n n) z=some r) ?_ ?_
      ·intro K22 hK22;refine seqR (S Fv (S Ld (S BS (nil ?_))));refine cE hE (fun hc26 hE=>?_) (fun hc26 hE=>?_)
       ·refine region ?_;refine S Fv (S Ld (S As (nil ?_)));exact hK22 _ x12.FOn Weak.toA hE
       refine AWp.skip ?_;exact hK22 _ a2 Weak.toA hE
      rintro s10_23 hE;try dsimp only at hE
      unfold fields_checker_sels_j22 at hE;refine region ?_;refine S Mv (S Fv ?_);refine s0 (loadV (TK rfl) rfl rfl (congrArg (fun x=>some (A.d x)) (TSel.FSelsD_eq _))) rfl ?_;refine S Mv (S Mv ?_);obtain⟨x24,gx24,hE⟩:=bO hE;refine sH (callH rfl rfl (ih_29 gx24 _ hpG hpG)) rfl ?_;refine hq ((H.set c0_2 (some (.tok 2 x24.Fout.l.length))).set c0 (some (.cells (Z0.cg (some c0_2) x24)))) ?_;refine nil ?_
      exact hK9 _ x24 Weak.toA hE
     refine region ?_;refine S Mv (S Ld (S Mv (S Mv ?_)));obtain⟨x27,gx27,hE⟩:=bO hE;refine sH (callH rfl rfl (ih_56 gx27 _ hpG hpG)) rfl ?_;refine hq ((H.set c0_2 (some (.tok 2 x27.Fout.l.length))).set c0 (some (.cells (Z0.cg (some c0_2) x27)))) ?_;refine nil ?_;exact hK9 _ x27 Weak.toA hE
    rintro y10_c0 hE;try dsimp only at hE
    unfold fields_checker_sels_j9 at hE;refine region ?_;refine SI ?_;refine S Mv (nil ?_);exact hK3 _ (n3,(s13_4+1),y10_c0) Weak.toA hE (Nat.lt_succ_self _)
   refine AWp.exit ?_;repeat (first|refine xBlock_normal ?_|refine xThen_exit ?_|refine xBlock_exit ?_)
   obtain rfl:=Option.some.inj hE;refine retQ.normalF ((H.set c0_2 (some (.tok 2 y5_c0.Fout.l.length))).set c0 (some (.cells (Z0.cg (some c0_2) y5_c0)))) (xs:=[]) rfl ⟨rfl,rfl⟩ ?_;exact(fun _ _ h=>h)
theorem Z24_step (n:Nat) (ih_29:∀{a0:Z0}{a1:Sl TSel}{a2 a3:Bs}{w1:Option Nat}{c0 c0_2:Nat}{r:Z0},fields_checker_sels_n n a0 a1 a2 a3=some r->∀(H:Heap) (hc0:H c0=some (.cells (Z0.cg (some c0_2) a0))) (ht0_2:H c0_2=some (.tok 2 a0.Fout.l.length)),ACalls Tryz.prog 29 [.d (.ptr c0 0),.d (Sl.d 7 TSel.c w1 a1),.d (.str a2),.d (.str a3)] H fun v h'=>v=.tup []/\h'=((H.set c0_2 (some (.tok 2 r.Fout.l.length))).set c0 (some (.cells (Z0.cg (some c0_2) r))))) (ih_56:∀{a0:Z0}{a1:TSel}{a2 a3:Bs}{c0 c0_2:Nat}{r:Z0},Z24_n n a0 a1 a2 a3=some r->∀(H:Heap) (hc0:H c0=some (.cells (Z0.cg (some c0_2) a0))) (ht0_2:H c0_2=some (.tok 2 a0.Fout.l.length)),ACalls Tryz.prog 56 [.d (.ptr c0 0),.agg (TSel.c a1),.d (.str a2),.d (.str a3)] H fun v h'=>v=.tup []/\h'=((H.set c0_2 (some (.tok 2 r.Fout.l.length))).set c0 (some (.cells (Z0.cg (some c0_2) r))))):∀{a0:Z0}{a1:TSel}{a2 a3:Bs}{c0 c0_2:Nat}{r:Z0},Z24_n (n+1) a0 a1 a2 a3=some r->∀(H:Heap) (hc0:H c0=some (.cells (Z0.cg (some c0_2) a0))) (ht0_2:H c0_2=some (.tok 2 a0.Fout.l.length)),ACalls Tryz.prog 56 [.d (.ptr c0 0),.agg (TSel.c a1),.d (.str a2),.d (.str a3)] H fun v h'=>v=.tup []/\h'=((H.set c0_2 (some (.tok 2 r.Fout.l.length))).set c0 (some (.cells (Z0.cg (some c0_2) r)))):=by
 intro a0 a1 a2 a3  c0 c0_2 r hE H hc0 ht0_2;rw [Z24_n] at hE;refine ACalls.oW 163 [] Tryz.call56 Tryz.func56 ?_;have ne_c0_c0_2:c0≠c0_2:=fun e_=>by subst e_; simp_all
 refine AWp.heqA (h':=((H.set c0_2 (some (.tok 2 a0.Fout.l.length))).set c0 (some (.cells (Z0.cg (some c0_2) a0))))) (by funext n_; simp only [Heap.set]; (repeat' split)<;>simp_all) ?_;refine seqR (S BX (nil ?_));refine seqR (S Fv (S Ld (S As (nil ?_))));refine seqJH (TA 0 (TA 2 (TA 3 (TA 5 KeepsT.nil)))) (fun(z:Bs)=>[(8,.a (.d (.str z)))]) (fun z=>((H.set c0_2 (some (.tok 2 a0.Fout.l.length))).set c0 (some (.cells (Z0.cg (some c0_2) a0))))) (fun z=>Z24_j3 a0 a1 a2 a3 (fields_checker_sels_n n) z=some r) ?_ ?_
 ·intro K3 hK3;refine seqR (S Mv (S BS (nil ?_)));refine cE hE (fun hc54 hE=>?_) (fun hc54 hE=>?_)
  ·refine region ?_;refine S Fv (S Ld (S As (nil ?_)));exact hK3 _ a1.FName Weak.toA hE
  refine AWp.skip ?_;exact hK3 _ a1.FAlias Weak.toA hE
 rintro s8_4 hE;try dsimp only at hE
 unfold Z24_j3 at hE;refine seqR (S Mv (S Mv ?_));obtain⟨x6,gx6,hE⟩:=bO hE;refine s0 (catM rfl rfl gx6) rfl ?_;obtain⟨x7,gx7,hE⟩:=bO hE;refine s0 (catM rfl rfl gx7) rfl ?_;refine S As (nil ?_);refine seqR (S Mv (S Fv (S Ld ?_)));obtain⟨x9,gx9,hE⟩:=bO hE;refine Sc rfl rfl (Z113_walk gx9) ?_;refine S Mv ?_;obtain⟨x10,gx10,hE⟩:=bO hE;refine sH (callH rfl rfl (Z21_walk gx10 _ hpG hpG)) rfl ?_;refine hq ((H.set c0_2 (some (.tok 2 x10.Fout.l.length))).set c0 (some (.cells (Z0.cg (some c0_2) x10)))) ?_
 refine nil ?_;refine AWp.seqD (Sd Mv (Sd NP ?_));refine DOps.s0 (fieldP (TK rfl) rfl rfl (TK rfl) rfl rfl) rfl ?_;refine DOps.s0 (loadP (TK rfl) rfl rfl hpG rfl) rfl ?_;refine Sd Mv (Sd Fv (Sd Ld ?_));obtain⟨x12,gx12,hE⟩:=bO hE;refine Scd rfl rfl (Z19_walk gx12) ?_;refine Sd Mv (Sd EX (Sd EX ?_));refine DOps.sB (TK rfl) rfl rfl ?_ (by repeat (first|exact Snoc.nil|apply Snoc.cons));refine DOps.sLn (storeLFA (TK rfl) rfl rfl rfl rfl rfl) ?_
 refine Sd As ?_;refine DOps.nil (by decide +kernel) ?_;refine freezeA 9 _ rfl (KA 0 (KA 2 (KA 3 (KA 5 (KA 10 Keeps.nil))))) ?_;refine seqR (S Mv (S Mv (S NB (S Mv (G0 Mv ?_)))));refine G1 50 rfl NP ?_;refine gC rfl rfl (fun hC=>ungdA (k:=51) rfl (fieldP (TK rfl) rfl rfl (TK rfl) rfl rfl)) rfl ?_;refine gC rfl rfl (fun hC=>ungdA (k:=52) rfl (loadP (TK rfl) rfl rfl hpG rfl)) rfl ?_;refine G0 Mv ?_;obtain⟨x14,gx14,hE⟩:=gO hE
 refine Gc2 53 54 rfl rfl rfl rfl rfl rfl (fun hC=>Z76_walk (gx14 hC)) ?_;refine S PA (S Mv ?_);obtain⟨x15,gx15,hE⟩:=bO hE;refine sH (callH rfl rfl (Z21_walk gx15 _ hpG hpG)) rfl ?_;refine hq ((H.set c0_2 (some (.tok 2 x15.Fout.l.length))).set c0 (some (.cells (Z0.cg (some c0_2) x15)))) ?_;refine nil ?_;refine seqJH (TA 0 (TA 3 (TA 5 (TA 9 (TA 10 KeepsT.nil))))) (fun(z:Z0)=>[]) (fun z=>((H.set c0_2 (some (.tok 2 z.Fout.l.length))).set c0 (some (.cells (Z0.cg (some c0_2) z))))) (fun z=>Z24_j16 a1 x7 x12 (fields_checker_sels_n n) z=some r) ?_ ?_
 ·intro K16 hK16;refine seqR (S Mv (nil ?_));refine cE hE (fun hc22 hE=>?_) (fun hc22 hE=>?_)
  ·refine AWp.seqD (Sd Mv (Sd NP ?_));refine DOps.s0 (fieldP (TK rfl) rfl rfl (TK rfl) rfl rfl) rfl ?_;refine DOps.s0 (loadP (TK rfl) rfl rfl hpG rfl) rfl ?_;refine Sd Fv (Sd Ld ?_);obtain⟨x24,gx24,hE⟩:=bO hE;refine Scd rfl rfl (Z81_walk gx24) ?_;refine Sd As ?_;refine DOps.nil (by decide +kernel) ?_;refine AWp.seqD (Sd Mv (Sd Mv (Sd Mv (G0d Fv ?_))));refine DOps.gC rfl rfl (fun hC=>ungdA (k:=70) rfl (loadV (TK rfl) rfl rfl (congrArg (fun x=>some (A.d x)) (TSel.FSelsD_eq _)))) rfl ?_
   refine DOps.gC rfl rfl (fun hC=>ungdA (k:=71) rfl (lenM' (f:=TSel.c) (s:=a1.FSels) (TK rfl) rfl rfl rfl)) rfl ?_;refine G1d 72 rfl BI ?_;refine Sd PA (Sd Mv (G0d Mv ?_));refine G1d 76 rfl NP ?_;refine DOps.gC rfl rfl (fun hC=>ungdA (k:=77) rfl (fieldP (TK rfl) rfl rfl (TK rfl) rfl rfl)) rfl ?_;refine DOps.gC rfl rfl (fun hC=>ungdA (k:=78) rfl (loadP (TK rfl) rfl rfl hpG rfl)) rfl ?_;refine G0d Fv ?_
   refine G1d 80 rfl Ld ?_;obtain⟨x26,gx26,hE⟩:=gO hE;refine Gc2d 79 81 rfl rfl rfl rfl rfl rfl (fun hC=>Z76_walk (gx26 hC)) ?_;refine G1d 82 rfl Mv ?_;refine G0d Fv ?_;refine DOps.gC rfl rfl (fun hC=>ungdA (k:=84) rfl (loadV (TK rfl) rfl rfl (congrArg (fun x=>some (A.d x)) (TSel.FSelsD_eq _)))) rfl ?_;refine DOps.gC rfl rfl (fun hC=>ungdA (k:=85) rfl (lenM' (f:=TSel.c) (s:=a1.FSels) (TK rfl) rfl rfl rfl)) rfl ?_
   refine G1d 86 rfl BI ?_;refine DOps.gC rfl rfl (fun hC=>ungdA (k:=83) rfl (pickAndA rfl rfl rfl)) rfl ?_;refine Sd PO (Sd Mv ?_);obtain⟨x27,gx27,hE⟩:=bO hE;refine DOps.sH (callH rfl rfl (Z21_walk gx27 _ hpG hpG)) rfl ?_;refine DOps.Dh ((H.set c0_2 (some (.tok 2 x27.Fout.l.length))).set c0 (some (.cells (Z0.cg (some c0_2) x27)))) ?_;refine DOps.nil (by decide +kernel) ?_;refine seqR (S Mv (S NP ?_))
   refine s0 (fieldP (TK rfl) rfl rfl (TK rfl) rfl rfl) rfl ?_;refine s0 (loadP (TK rfl) rfl rfl hpG rfl) rfl ?_;refine S Mv ?_;obtain⟨x29,gx29,hE⟩:=bO hE;refine Sc rfl rfl (Z78_walk gx29) ?_;refine S Mv (S EX (S EX ?_));refine Sl ?_;refine Sf ?_;refine S As (nil ?_);refine freezeA 12 _ rfl (KA 0 (KA 3 (KA 5 (KA 9 (KA 10 Keeps.nil))))) ?_;refine seqR (S BU ?_);refine Sl ?_;refine Sf ?_;refine nil ?_
   refine seqJ (TA 0 (TA 3 (TA 5 (TA 9 (TA 10 (TA 14 KeepsT.nil)))))) (fun(z:Z4)=>[]) (fun z=>[Z4.c z]) (fun z=>((H.set c0_2 (some (.tok 2 x27.Fout.l.length))).set c0 (some (.cells (Z0.cg (some c0_2) x27))))) (fun z=>Z24_j31 a1 x7 x12 x27 (fields_checker_sels_n n) z=some r) ?_ ?_
   ·intro K31 hK31;refine seqR (S Fv (S Ld (S BS (nil ?_))));refine cE hE (fun hc51 hE=>?_) (fun hc51 hE=>?_)
    ·refine region ?_;refine S Ld (S Fv (S Ld ?_));obtain⟨x52,gx52,hE⟩:=bO hE;refine Sc rfl rfl (Z77_walk gx52) ?_;refine S Mv (S EX (S EX ?_));refine Sf ?_;refine nil ?_;exact hK31 _ x52.1 Weak.toA hE
    refine AWp.skip ?_;exact hK31 _ (Z4.mk ([]:Bs) (Sl.nil:Sl Z6) TRef.zero (Sl.nil:Sl TDir)) Weak.toA hE
   rintro y32_l0 hE;try dsimp only at hE
   unfold Z24_j31 at hE;refine seqR (S Mv (S FL (S LL (S Fv (S Ld (S Mv ?_))))));obtain⟨x34,gx34,hE⟩:=bO hE;refine sH (callH rfl rfl (Z25_walk gx34 _ hpG hpG)) rfl ?_;refine hq ((H.set c0_2 (some (.tok 2 x34.Fout.l.length))).set c0 (some (.cells (Z0.cg (some c0_2) x34)))) ?_;refine nil ?_;refine seqR (S FL (S LL ?_));refine sLen (f:=Z6.c) (s:=y32_l0.FArgs) (TK rfl) rfl rfl rfl rfl fun hL36=>?_;refine S Mv (nil ?_)
   refine block ?_;refine loopH (TA 0 (TA 3 (TA 5 (TA 9 (TA 10 (TA 120 (TA 121 KeepsT.nil))))))) (fun(z:Nat×Nat×Z0)=>[(122,.a (.d (.int .i64 ((z.2.1:Nat):Int))))]) (fun z=>((H.set c0_2 (some (.tok 2 z.2.2.Fout.l.length))).set c0 (some (.cells (Z0.cg (some c0_2) z.2.2))))) (fun z=>z.1) (fun z=>Z24_l37 a1 x7 x12 y32_l0 (fields_checker_sels_n n) z.1 z.2.1 z.2.2=some r) ((y32_l0.FArgs.l.length+1),0,x34) hE Weak.toA ?_
   rintro ⟨n37,s122_38,y39_c0⟩ hE K37 hK37;try dsimp only at hE
   cases n37 with
   | zero=>cases hE
   | succ n37 =>
     rw [Z24_l37] at hE;refine seqR (S BI (nil ?_));refine seqK fun K41 hK41=>?_;refine cE hE (fun hc42 hE=>?_) (fun hc42 hE=>?_)
     ·try dsimp only at hc42
      have hf42:=of_decide_eq_true hc42;refine sk hK41 ?_;clear hK41 K41;refine seqK fun K43 hK43=>?_;refine block ?_;refine seqR ?_;obtain⟨x45,gx45,hE⟩:=bO hE;refine S (ix Z6.c s122_38 gx45) (S Ld ?_);refine Sl ?_;refine Sf ?_;refine nil ?_;refine freezeA 16 _ rfl (KA 0 (KA 3 (KA 5 (KA 9 (KA 10 (KA 120 (KA 121 (KA 122 Keeps.nil)))))))) ?_;refine seqR (S Fv (S Ld (S Fv (S Ld ?_))));obtain⟨x47,gx47,hE⟩:=bO hE
      refine Sc rfl rfl (Z28_walk gx47) ?_;refine S Mv (S EX (S EX ?_));refine Sl ?_;refine Sf ?_;refine S As (nil ?_);refine freezeA 17 _ rfl (KA 0 (KA 3 (KA 5 (KA 9 (KA 10 (KA 16 (KA 18 (KA 120 (KA 121 (KA 122 Keeps.nil)))))))))) ?_;refine region ?_;refine S Mv (S Fv (S Ld ?_));obtain⟨x48,gx48,hE⟩:=bO hE;refine Sc rfl rfl (Z116_walk gx48) ?_;refine S Mv (G0 Fv ?_);refine G1 139 rfl Ld ?_;refine G1 140 rfl NB ?_
      refine S PA (S Mv (G0 Mv ?_));refine G1 144 rfl NB ?_;refine S PA (S Mv ?_);obtain⟨x49,gx49,hE⟩:=bO hE;refine sH (callH rfl rfl (Z21_walk gx49 _ hpG hpG)) rfl ?_;refine hq ((H.set c0_2 (some (.tok 2 x49.Fout.l.length))).set c0 (some (.cells (Z0.cg (some c0_2) x49)))) ?_;refine nil ?_;refine hK43 _ ?_;clear hK43 K43;refine region ?_;refine SI ?_;refine S Mv (nil ?_);exact hK37 _ (n37,(s122_38+1),x49) Weak.toA hE (Nat.lt_succ_self _)
     refine AWp.exit ?_;exact hK16 _ y39_c0 Weak.toA hE
  refine AWp.skip ?_;exact hK16 _ x15 Weak.toA hE
 rintro y17_c0 hE;try dsimp only at hE
 unfold Z24_j16 at hE;refine seqR (S Mv (S Ld (S Ld (S Mv (S Mv ?_)))));obtain⟨x19,gx19,hE⟩:=bO hE;refine sH (callH rfl rfl (Z22_walk gx19 _ hpG hpG)) rfl ?_;refine hq ((H.set c0_2 (some (.tok 2 x19.Fout.l.length))).set c0 (some (.cells (Z0.cg (some c0_2) x19)))) ?_;refine nil ?_;refine region ?_;refine S Mv (S Fv ?_);refine s0 (loadV (TK rfl) rfl rfl (congrArg (fun x=>some (A.d x)) (TSel.FSelsD_eq _))) rfl ?_
 refine S Fv (S Ld (S Mv ?_));obtain⟨x20,gx20,hE⟩:=bO hE;refine sH (callH rfl rfl (ih_29 gx20 _ hpG hpG)) rfl ?_;refine hq ((H.set c0_2 (some (.tok 2 x20.Fout.l.length))).set c0 (some (.cells (Z0.cg (some c0_2) x20)))) ?_;refine nil ?_;repeat (first|refine xBlock_normal ?_|refine xThen_exit ?_|refine xBlock_exit ?_)
 obtain rfl:=Option.some.inj hE;refine retQ.normalF ((H.set c0_2 (some (.tok 2 x20.Fout.l.length))).set c0 (some (.cells (Z0.cg (some c0_2) x20)))) (xs:=[]) rfl ⟨rfl,rfl⟩ ?_;exact(fun _ _ h=>h)
theorem fields_checker_sels_all:∀(n:Nat),(∀{a0:Z0}{a1:Sl TSel}{a2 a3:Bs}{w1:Option Nat}{c0 c0_2:Nat}{r:Z0},fields_checker_sels_n n a0 a1 a2 a3=some r->∀(H:Heap) (hc0:H c0=some (.cells (Z0.cg (some c0_2) a0))) (ht0_2:H c0_2=some (.tok 2 a0.Fout.l.length)),ACalls Tryz.prog 29 [.d (.ptr c0 0),.d (Sl.d 7 TSel.c w1 a1),.d (.str a2),.d (.str a3)] H fun v h'=>v=.tup []/\h'=((H.set c0_2 (some (.tok 2 r.Fout.l.length))).set c0 (some (.cells (Z0.cg (some c0_2) r)))))/\(∀{a0:Z0}{a1:TSel}{a2 a3:Bs}{c0 c0_2:Nat}{r:Z0},Z24_n n a0 a1 a2 a3=some r->∀(H:Heap) (hc0:H c0=some (.cells (Z0.cg (some c0_2) a0))) (ht0_2:H c0_2=some (.tok 2 a0.Fout.l.length)),ACalls Tryz.prog 56 [.d (.ptr c0 0),.agg (TSel.c a1),.d (.str a2),.d (.str a3)] H fun v h'=>v=.tup []/\h'=((H.set c0_2 (some (.tok 2 r.Fout.l.length))).set c0 (some (.cells (Z0.cg (some c0_2) r)))))
 | 0=>⟨fun hE=>by first|cases hE|(rw [fields_checker_sels_n] at hE; cases hE),fun hE=>by first|cases hE|(rw [Z24_n] at hE; cases hE)⟩
 | n+1=>⟨fields_checker_sels_step n (fields_checker_sels_all n).1 (fields_checker_sels_all n).2,Z24_step n (fields_checker_sels_all n).1 (fields_checker_sels_all n).2⟩
def fields_checker_sels (a0:Z0) (a1:(Sl TSel)) (a2:Bs) (a3:Bs):Option Z0:=fields_checker_sels_n F0 a0 a1 a2 a3
theorem fields_checker_sels_walk {a0:Z0}{a1:Sl TSel}{a2 a3:Bs}{w1:Option Nat}{c0 c0_2:Nat}{r:Z0}(hE:fields_checker_sels a0 a1 a2 a3=some r) (H:Heap) (hc0:H c0=some (.cells (Z0.cg (some c0_2) a0))) (ht0_2:H c0_2=some (.tok 2 a0.Fout.l.length)):ACalls Tryz.prog 29 [.d (.ptr c0 0),.d (Sl.d 7 TSel.c w1 a1),.d (.str a2),.d (.str a3)] H fun v h'=>v=.tup []/\h'=((H.set c0_2 (some (.tok 2 r.Fout.l.length))).set c0 (some (.cells (Z0.cg (some c0_2) r)))):=(fields_checker_sels_all F0).1 hE H hc0 ht0_2
def Z18_j7  (y8_id18_3:Z0):Option (Sl Z3):=some y8_id18_3.Fout
def Z18_l12 (a1:Z8) :Nat->Nat->Z0->Option (Sl Z3)
 | 0,_,_=>none
 | n12+1,s75_13,y14_id18_3=>bif (decide (((s75_13:Nat):Int)<((a1.FFrags.l.length:Nat):Int))) then((a1.FFrags.l[s75_13]?).bind fun x20=>(fields_checker_sels y14_id18_3 x20.FSels x20.FOn x20.FName).bind fun x21=>(Z18_l12 a1 n12) (s75_13+1) x21) else(Z18_j7   y14_id18_3)
def Z18_j5 (a1:Z8)  (y6_id18_3:Z0):Option (Sl Z3):=Z18_l12 a1 (a1.FFrags.l.length+1) 0 y6_id18_3
def Z18_l24 (a0:TDoc) (a1:Z8) :Nat->Nat->Z0->Option (Sl Z3)
 | 0,_,_=>none
 | n24+1,s22_25,y26_id18_3=>bif (decide (((s22_25:Nat):Int)<((a1.FOps.l.length:Nat):Int))) then((a1.FOps.l[s22_25]?).bind fun x32=>(Z82 x32.FKind).bind fun x34=>(Z78 a0 x34).bind fun x36=>(Z26 y26_id18_3 x32.FSels ([]:List Bs) ([]:List Bs)).bind fun x41=>(Z21 y26_id18_3 (((!x36.2)||(!decide (x36.1.FKind=(1:Int))))||((decide (x32.FKind=(3:Int)))&&(!decide ((((seenM x41.1).length:Nat):Int)=(1:Int))))) (30:Int) x32.FName).bind fun x44=>(fields_checker_sels x44 x32.FSels x34 x32.FName).bind fun x45=>(Z18_l24 a0 a1 n24) (s22_25+1) x45) else(Z18_j5 a1  y26_id18_3)
def Z18 (a0:TDoc) (a1:Z8):Option (Sl Z3):=Z18_l24 a0 a1 (a1.FOps.l.length+1) 0 (Z0.mk a0 a1 (Sl.nil:Sl Z3))
theorem Z18_walk {a0:TDoc}{a1:Z8}{r:Sl Z3}(hE:Z18 a0 a1=some r) (H:Heap) :ACalls Tryz.prog 7 [.agg (TDoc.c a0),.agg (Z8.c a1)] H fun v h'=>v=.a (.d (Sl.d 2 Z3.c none r))/\h'=H:=by
 unfold Z18 at hE;refine ACalls.oW 92 [.tmp 4] Tryz.call7 Tryz.func7 ?_;refine seqR (S BX (S BX ?_));refine s0 (assignNil (k':=2) rfl) rfl ?_;refine nil ?_;refine seqR (S Ld (S Ld (S BU ?_)));refine AOps.tok 2 fun tk18_4 htk18_4=>?_;refine sE (StepE.boxO rfl) rfl (fun _ _ _ ⟨id18_3,hid18_3,e1,e2,e3⟩=>?_); subst e1 e2 e3;obtain⟨ne_id18_3_tk18_4,hid18_3⟩:=Heap.set_fresh hid18_3;refine AOps.recell id18_3 _ hpG (fun j w cs hh hx=>tok_cell 3 2 2 hh (t:=tk18_4) hpG hx rfl) ?_
 refine hq ((H.set tk18_4 (some (.tok 2 0))).set id18_3 (some (.cells (Z0.cg (some tk18_4) (Z0.mk a0 a1 (Sl.nil:Sl Z3)))))) ?_;refine S As (nil ?_);refine seqJH (TA 3 (TA 5 KeepsT.nil)) (fun(z:Z0)=>[]) (fun z=>((H.set tk18_4 (some (.tok 2 z.Fout.l.length))).set id18_3 (some (.cells (Z0.cg (some tk18_4) z))))) (fun z=>Z18_j5 a1 z=some r) ?_ ?_
 ·intro K5 hK5;refine seqR (S Fv (S Ld ?_));refine sLen (f:=TOp.c) (s:=a1.FOps) (TK rfl) rfl rfl rfl rfl fun hL23=>?_;refine S Mv (nil ?_);refine block ?_;refine loopH (TA 2 (TA 3 (TA 5 (TA 20 (TA 21 KeepsT.nil))))) (fun(z:Nat×Nat×Z0)=>[(22,.a (.d (.int .i64 ((z.2.1:Nat):Int))))]) (fun z=>((H.set tk18_4 (some (.tok 2 z.2.2.Fout.l.length))).set id18_3 (some (.cells (Z0.cg (some tk18_4) z.2.2))))) (fun z=>z.1) (fun z=>Z18_l24 a0 a1 z.1 z.2.1 z.2.2=some r) ((a1.FOps.l.length+1),0,(Z0.mk a0 a1 (Sl.nil:Sl Z3))) hE Weak.toA ?_
  rintro ⟨n24,s22_25,y26_id18_3⟩ hE K24 hK24;try dsimp only at hE
  cases n24 with
  | zero=>cases hE
  | succ n24 =>
    rw [Z18_l24] at hE;refine seqR (S BI (nil ?_));refine seqK fun K28 hK28=>?_;refine cE hE (fun hc29 hE=>?_) (fun hc29 hE=>?_)
    ·try dsimp only at hc29
     have hf29:=of_decide_eq_true hc29;refine sk hK28 ?_;clear hK28 K28;refine seqK fun K30 hK30=>?_;refine block ?_;refine seqR ?_;obtain⟨x32,gx32,hE⟩:=bO hE;refine S (ix TOp.c s22_25 gx32) (S Ld ?_);refine Sl ?_;refine Sf ?_;refine nil ?_;refine freezeA 7 _ rfl (KA 2 (KA 3 (KA 5 (KA 20 (KA 21 (KA 22 Keeps.nil)))))) ?_;refine seqR (S Fv (S Ld ?_));obtain⟨x34,gx34,hE⟩:=bO hE;refine Sc rfl rfl (Z82_walk gx34) ?_
     refine S As (nil ?_);refine seqR (S Ld (S Mv ?_));obtain⟨x36,gx36,hE⟩:=bO hE;refine Sc rfl rfl (Z78_walk gx36) ?_;refine S Mv (S EX (S EX ?_));refine Sl ?_;refine Sf ?_;refine S As (nil ?_);refine freezeA 9 _ rfl (KA 2 (KA 3 (KA 5 (KA 7 (KA 8 (KA 10 (KA 20 (KA 21 (KA 22 Keeps.nil))))))))) ?_;refine seqR ?_;refine sE StepE.makeMap rfl (fun _ _ _ ⟨id35_38,hid35_38,e1,e2,e3⟩=>?_); subst e1 e2 e3
     obtain⟨ne_id35_38_id18_3,hid35_38⟩:=Heap.set_fresh hid35_38;obtain⟨ne_id35_38_tk18_4,hid35_38⟩:=Heap.set_fresh hid35_38;refine hq (((H.set tk18_4 (some (.tok 2 y26_id18_3.Fout.l.length))).set id18_3 (some (.cells (Z0.cg (some tk18_4) y26_id18_3)))).set id35_38 (some (.map (seenM ([]:List Bs))))) ?_;refine S As (nil ?_);refine seqR (S Mv (S Fv (S Ld (S Mv ?_))));refine sE StepE.makeMap rfl (fun _ _ _ ⟨id40_40,hid40_40,e1,e2,e3⟩=>?_); subst e1 e2 e3
     obtain⟨ne_id40_40_id35_38,hid40_40⟩:=Heap.set_fresh hid40_40;obtain⟨ne_id40_40_id18_3,hid40_40⟩:=Heap.set_fresh hid40_40;obtain⟨ne_id40_40_tk18_4,hid40_40⟩:=Heap.set_fresh hid40_40;refine hq ((((H.set tk18_4 (some (.tok 2 y26_id18_3.Fout.l.length))).set id18_3 (some (.cells (Z0.cg (some tk18_4) y26_id18_3)))).set id35_38 (some (.map (seenM ([]:List Bs))))).set id40_40 (some (.map (seenM ([]:List Bs))))) ?_
     obtain⟨x41,gx41,hE⟩:=bO hE;refine sH (callH rfl rfl (Z26_walk gx41 _ hpG hpG hpG (by assumption))) rfl ?_;refine hq ((((H.set tk18_4 (some (.tok 2 y26_id18_3.Fout.l.length))).set id18_3 (some (.cells (Z0.cg (some tk18_4) y26_id18_3)))).set id35_38 (some (.map (seenM x41.1)))).set id40_40 (some (.map (seenM x41.2)))) ?_;refine nil ?_;refine seqR (S Mv (S NB (S Mv (G0 Fv ?_))));refine G1 45 rfl Ld ?_
     refine G1 46 rfl BI ?_;refine S PO (S As (nil ?_));refine seqR (S Mv (S Mv (S Mv (G0 Fv ?_))));refine G1 52 rfl Ld ?_;refine G1 53 rfl BI ?_;refine G1 54 rfl Mv ?_;refine G0 Mv ?_;refine gC rfl rfl (fun hC=>ungdA (k:=56) rfl (lenM (TK rfl) rfl rfl rfl hpG)) rfl ?_;refine G1 57 rfl BI ?_;refine gC rfl rfl (fun hC=>ungdA (k:=55) rfl (pickAndA rfl rfl rfl)) rfl ?_;refine S PO (S Fv (S Ld ?_));obtain⟨x44,gx44,hE⟩:=bO hE
     refine sH (callH rfl rfl (Z21_walk gx44 _ hpG hpG)) rfl ?_;refine hq ((((H.set tk18_4 (some (.tok 2 x44.Fout.l.length))).set id18_3 (some (.cells (Z0.cg (some tk18_4) x44)))).set id35_38 (some (.map (seenM x41.1)))).set id40_40 (some (.map (seenM x41.2)))) ?_;refine nil ?_;refine region ?_;refine S Mv (S Fv (S Ld (S Mv (S Fv (S Ld ?_)))));obtain⟨x45,gx45,hE⟩:=bO hE;refine sH (callH rfl rfl (fields_checker_sels_walk gx45 _ hpG hpG)) rfl ?_
     refine hq ((((H.set tk18_4 (some (.tok 2 x45.Fout.l.length))).set id18_3 (some (.cells (Z0.cg (some tk18_4) x45)))).set id35_38 (some (.map (seenM x41.1)))).set id40_40 (some (.map (seenM x41.2)))) ?_;refine nil ?_;refine hK30 _ ?_;clear hK30 K30;refine region ?_;refine SI ?_;refine S Mv (nil ?_);exact hK24 _ (n24,(s22_25+1),x45) (Weak.toFA (by(intro id_ o_ he_); (have e_id35_38:id_≠id35_38:=fun e_=>by rw [e_] at he_; simp [Heap.set,hid35_38,ne_id35_38_tk18_4,ne_id35_38_id18_3] at he_); (have e_id40_40:id_≠id40_40:=fun e_=>by rw [e_] at he_; simp [Heap.set,hid40_40,ne_id40_40_tk18_4,ne_id40_40_id18_3] at he_); (rw [<- he_]); (simp only [Heap.set,if_neg e_id35_38,if_neg e_id40_40]); (first|done|rfl))) hE (Nat.lt_succ_self _)
    refine AWp.exit ?_;exact hK5 _ y26_id18_3 Weak.toA hE
 rintro y6_id18_3 hE;try dsimp only at hE
 unfold Z18_j5 at hE;refine seqJH (TA 5 KeepsT.nil) (fun(z:Z0)=>[]) (fun z=>((H.set tk18_4 (some (.tok 2 z.Fout.l.length))).set id18_3 (some (.cells (Z0.cg (some tk18_4) z))))) (fun z=>Z18_j7 z=some r) ?_ ?_
 ·intro K7 hK7;refine seqR (S Fv (S Ld ?_));refine sLen (f:=Z5.c) (s:=a1.FFrags) (TK rfl) rfl rfl rfl rfl fun hL11=>?_;refine S Mv (nil ?_);refine block ?_;refine loopH (TA 5 (TA 73 (TA 74 KeepsT.nil))) (fun(z:Nat×Nat×Z0)=>[(75,.a (.d (.int .i64 ((z.2.1:Nat):Int))))]) (fun z=>((H.set tk18_4 (some (.tok 2 z.2.2.Fout.l.length))).set id18_3 (some (.cells (Z0.cg (some tk18_4) z.2.2))))) (fun z=>z.1) (fun z=>Z18_l12 a1 z.1 z.2.1 z.2.2=some r) ((a1.FFrags.l.length+1),0,y6_id18_3) hE Weak.toA ?_
  rintro ⟨n12,s75_13,y14_id18_3⟩ hE K12 hK12;try dsimp only at hE
  cases n12 with
  | zero=>cases hE
  | succ n12 =>
    rw [Z18_l12] at hE;refine seqR (S BI (nil ?_));refine seqK fun K16 hK16=>?_;refine cE hE (fun hc17 hE=>?_) (fun hc17 hE=>?_)
    ·try dsimp only at hc17
     have hf17:=of_decide_eq_true hc17;refine sk hK16 ?_;clear hK16 K16;refine seqK fun K18 hK18=>?_;refine block ?_;refine seqR ?_;obtain⟨x20,gx20,hE⟩:=bO hE;refine S (ix Z5.c s75_13 gx20) (S Ld ?_);refine Sl ?_;refine Sf ?_;refine nil ?_;refine freezeA 14 _ rfl (KA 5 (KA 73 (KA 74 (KA 75 Keeps.nil)))) ?_;refine region ?_;refine S Mv (S Fv (S Ld (S Fv (S Ld (S Fv (S Ld ?_))))));obtain⟨x21,gx21,hE⟩:=bO hE
     refine sH (callH rfl rfl (fields_checker_sels_walk gx21 _ hpG hpG)) rfl ?_;refine hq ((H.set tk18_4 (some (.tok 2 x21.Fout.l.length))).set id18_3 (some (.cells (Z0.cg (some tk18_4) x21)))) ?_;refine nil ?_;refine hK18 _ ?_;clear hK18 K18;refine region ?_;refine SI ?_;refine S Mv (nil ?_);exact hK12 _ (n12,(s75_13+1),x21) Weak.toA hE (Nat.lt_succ_self _)
    refine AWp.exit ?_;exact hK7 _ y14_id18_3 Weak.toA hE
 rintro y8_id18_3 hE;try dsimp only at hE
 unfold Z18_j7 at hE;refine seqR (S Mv (S NP ?_));refine s0 (fieldP (TK rfl) rfl rfl (TK rfl) rfl rfl) rfl ?_;refine s0 (loadP (TK rfl) rfl rfl hpG rfl) rfl ?_;refine S As (nil ?_);refine AWp.dropTok 4 rfl ?_;refine AWp.ret ?_;repeat (first|refine xBlock_ret ?_|refine xThen_ret ?_)
 obtain rfl:=Option.some.inj hE;refine retQ.retF H rfl ⟨rfl,rfl⟩ ?_;intro id_ o_ he_;have e_tk18_4:id_≠tk18_4:=fun e_=>by subst e_; simp_all [Heap.set]
 have e_id18_3:id_≠id18_3:=fun e_=>by subst e_; simp_all [Heap.set]
 rw [<- he_];simp only [Heap.set] at he_ ⊢
 (repeat' split)<;>simp_all
end Go.Proofs
