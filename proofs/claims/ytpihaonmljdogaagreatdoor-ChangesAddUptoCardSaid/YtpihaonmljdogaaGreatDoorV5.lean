import Derived.Test.YtpihaonmljdogaaGreatDoorV4
set_option maxRecDepth 100000
set_option maxHeartbeats 2000000
set_option linter.unusedVariables false
set_option linter.unusedSimpArgs false
namespace Go.Proofs
open Go Go.Ab
open AOps Cert AWp Keeps KeepsT
variable {lou:Lou}
def Tryz.lay110_ren:Go.Shelf.Ren:=⟨fun|153=>110|152=>138|226=>139|227=>140|228=>141|137=>147|119=>161|224=>108|225=>107|217=>106|266=>136|n=>n,fun|9=>9|3=>3|4=>4|5=>5|21=>21|117=>175|116=>174|0=>0|46=>151|124=>188|n=>n,fun|n=>n⟩
theorem Tryz.lay110:Go.Proofs.Lays.n153 Tryz.prog Tryz.lay110_ren:={
 mixed:=by kernel_rfl
 f119:=Tryz.func161.trans (congrArg some (by kernel_rfl))
 f137:=Tryz.func147.trans (congrArg some (by kernel_rfl))
 f152:=Tryz.func138.trans (congrArg some (by kernel_rfl))
 f153:=Tryz.func110.trans (congrArg some (by kernel_rfl))
 f217:=Tryz.func106.trans (congrArg some (by kernel_rfl))
 f224:=Tryz.func108.trans (congrArg some (by kernel_rfl))
 f225:=Tryz.func107.trans (congrArg some (by kernel_rfl))
 f226:=Tryz.func139.trans (congrArg some (by kernel_rfl))
 f227:=Tryz.func140.trans (congrArg some (by kernel_rfl))
 f228:=Tryz.func141.trans (congrArg some (by kernel_rfl))
 f266:=Tryz.func136.trans (congrArg some (by kernel_rfl))
 t0:=Tryz.underlying0
 a0:=Tryz.isAgg0
 z0:=Tryz.sizeOf0
 v0:=Tryz.zeroValue0
 t3:=Tryz.underlying3
 a3:=Tryz.isAgg3
 z3:=Tryz.sizeOf3
 v3:=Tryz.zeroValue3
 t4:=Tryz.underlying4
 a4:=Tryz.isAgg4
 z4:=Tryz.sizeOf4
 v4:=Tryz.zeroValue4
 t5:=Tryz.underlying5
 a5:=Tryz.isAgg5
 z5:=Tryz.sizeOf5
 v5:=Tryz.zeroValue5
 t9:=Tryz.underlying9
 a9:=Tryz.isAgg9
 z9:=Tryz.sizeOf9
 v9:=Tryz.zeroValue9
 t21:=Tryz.underlying21
 a21:=Tryz.isAgg21
 z21:=Tryz.sizeOf21
 v21:=Tryz.zeroValue21
 t46:=Tryz.underlying151
 a46:=Tryz.isAgg151
 z46:=Tryz.sizeOf151
 v46:=Tryz.zeroValue151
 t116:=Tryz.underlying174
 a116:=Tryz.isAgg174
 z116:=Tryz.sizeOf174
 t117:=Tryz.underlying175
 a117:=Tryz.isAgg175
 z117:=Tryz.sizeOf175
 v117:=Tryz.zeroValue175
 t124:=Tryz.underlying188
 a124:=Tryz.isAgg188
 z124:=Tryz.sizeOf188
 v124:=Tryz.zeroValue188 }
def Z119 (s c:Bs):Option Int:=idxAnyC s c
theorem Z119_walk {a0 a1:Bs}{r:Int}(hE:Z119 a0 a1=some r) (H:Heap):ACalls Tryz.prog 110 [.d (.str a0),.d (.str a1)] H fun v h'=>v=.a (.d (.int .i64 r))/\h'=H:=idxAny_calls Tryz.lay110 (by kernel_rfl) hE rfl
def Z130_j2  (s1_3:Int):Option Int:=some s1_3
def Z130_j13 (a0:Bs) (s1_6:Int) (x12:UInt8) (k_next_5:Int->Option Int) (s14_14:Bool):Option Int:=bif s14_14 then((addC s1_6 (1:Int)).bind fun x16=>k_next_5 x16) else(bif (decide (((x12.toNat:Nat):Int)=(35:Int))) then((cutC a0 (some s1_6) none).bind fun x20=>(Z119 x20 ([10,13]:Bs)).bind fun x21=>bif (decide ((0:Int)<=x21)) then((addC s1_6 x21).bind fun x24=>k_next_5 x24) else(k_next_5 ((a0.length:Nat):Int))) else(some s1_6))
def Z130_l5 (a0:Bs) :Nat->Int->Option Int
 | 0,_=>none
 | n5+1,s1_6=>bif (decide (s1_6<((a0.length:Nat):Int))) then((idxC a0 s1_6).bind fun x12=>bif (decide (((x12.toNat:Nat):Int)=(32:Int))) then(Z130_j13 a0 s1_6 x12 ((Z130_l5 a0 n5)) (decide (((x12.toNat:Nat):Int)=(32:Int)))) else(bif (decide (((x12.toNat:Nat):Int)=(9:Int))) then(Z130_j13 a0 s1_6 x12 ((Z130_l5 a0 n5)) (decide (((x12.toNat:Nat):Int)=(9:Int)))) else(bif (decide (((x12.toNat:Nat):Int)=(10:Int))) then(Z130_j13 a0 s1_6 x12 ((Z130_l5 a0 n5)) (decide (((x12.toNat:Nat):Int)=(10:Int)))) else(bif (decide (((x12.toNat:Nat):Int)=(13:Int))) then(Z130_j13 a0 s1_6 x12 ((Z130_l5 a0 n5)) (decide (((x12.toNat:Nat):Int)=(13:Int)))) else(Z130_j13 a0 s1_6 x12 ((Z130_l5 a0 n5)) (decide (((x12.toNat:Nat):Int)=(44:Int)))))))) else(Z130_j2   s1_6)
def Z130 (a0:Bs) (a1:Int):Option Int:=Z130_l5 a0 F0 a1
theorem Z130_walk {a0:Bs}{a1 r:Int}(hE:Z130 a0 a1=some r) (H:Heap) :ACalls Tryz.prog 81 [.d (.str a0),.d (.int .i64 a1)] H fun v h'=>v=.a (.d (.int .i64 r))/\h'=H:=by
 unfold Z130 at hE;refine ACalls.oW 36 [.tmp 4] Tryz.call81 Tryz.func81 ?_;refine seqR (S As (nil ?_));refine seqJH KeepsT.nil (fun(z:Int)=>[(1,.a (.d (.int .i64 z)))]) (fun z=>H) (fun z=>Z130_j2 z=some r) ?_ ?_
 ·intro K2 hK2;refine block ?_;refine loopH (TA 0 KeepsT.nil) (fun(z:Nat×Int)=>[(1,.a (.d (.int .i64 z.2)))]) (fun z=>H) (fun z=>z.1) (fun z=>Z130_l5 a0 z.1 z.2=some r) (F0,a1) hE Weak.toA ?_;rintro ⟨n5,s1_6⟩ hE K5 hK5;try dsimp only at hE
  cases n5 with
  | zero=>cases hE
  | succ n5 =>
    rw [Z130_l5] at hE;refine seqK fun K7 hK7=>?_;refine seqR (S Mv (S Mv ?_));refine sLenS (TK rfl) rfl rfl rfl rfl fun hL9=>?_;refine S BI (nil ?_);refine cE hE (fun hc10 hE=>?_) (fun hc10 hE=>?_)
    ·refine sk hK7 ?_;clear hK7 K7;refine block ?_;refine seqR (S Mv (S Mv ?_));obtain⟨x12,gx12,hE⟩:=bO hE;refine s0 (idxS (TK rfl) rfl rfl rfl gx12) rfl ?_;refine nil ?_;refine block ?_;refine seqJH (TA 0 (TA 1 (TA 12 KeepsT.nil))) (fun(z:Bool)=>[(14,.a (.d (.bool z)))]) (fun z=>H) (fun z=>Z130_j13 a0 s1_6 x12 ((Z130_l5 a0 n5)) z=some r) ?_ ?_
     ·intro K13 hK13;refine seqR (S BI (S As (nil ?_)));refine cE hE (fun hc28 hE=>?_) (fun hc28 hE=>?_)
      ·refine AWp.skip ?_;exact hK13 _ (decide (((x12.toNat:Nat):Int)=(32:Int))) Weak.toA hE
      refine seqR (S BI (S As (nil ?_)));refine cE hE (fun hc30 hE=>?_) (fun hc30 hE=>?_)
      ·refine AWp.skip ?_;exact hK13 _ (decide (((x12.toNat:Nat):Int)=(9:Int))) Weak.toA hE
      refine seqR (S BI (S As (nil ?_)));refine cE hE (fun hc32 hE=>?_) (fun hc32 hE=>?_)
      ·refine AWp.skip ?_;exact hK13 _ (decide (((x12.toNat:Nat):Int)=(10:Int))) Weak.toA hE
      refine seqR (S BI (S As (nil ?_)));refine cE hE (fun hc34 hE=>?_) (fun hc34 hE=>?_)
      ·refine AWp.skip ?_;exact hK13 _ (decide (((x12.toNat:Nat):Int)=(13:Int))) Weak.toA hE
      refine region ?_;refine S BI (S As (nil ?_));exact hK13 _ (decide (((x12.toNat:Nat):Int)=(44:Int))) Weak.toA hE
     rintro s14_14 hE;try dsimp only at hE
     unfold Z130_j13 at hE;refine cE hE (fun hc15 hE=>?_) (fun hc15 hE=>?_)
     ·refine region ?_;refine S Mv ?_;obtain⟨x16,gx16,hE⟩:=bO hE;refine s0 (addM rfl rfl gx16) rfl ?_;refine S As (nil ?_);exact hK5 _ (n5,x16) Weak.toA hE (Nat.lt_succ_self _)
     refine seqR (S BI (S As (nil ?_)));refine cE hE (fun hc18 hE=>?_) (fun hc18 hE=>?_)
     ·refine seqR (S Mv (S Mv ?_));obtain⟨x20,gx20,hE⟩:=bO hE;refine s0 (cutM (l:=(some s1_6)) (r:=none) (TK rfl) rfl rfl rfl trivial (by simp) gx20) rfl ?_;obtain⟨x21,gx21,hE⟩:=bO hE;refine Sc rfl rfl (Z119_walk gx21) ?_;refine S As (nil ?_);refine seqR (S Mv (S BI (nil ?_)));refine cE hE (fun hc23 hE=>?_) (fun hc23 hE=>?_)
      ·refine region ?_;refine S Mv (S Mv ?_);obtain⟨x24,gx24,hE⟩:=bO hE;refine s0 (addM rfl rfl gx24) rfl ?_;refine S As (nil ?_);exact hK5 _ (n5,x24) Weak.toA hE (Nat.lt_succ_self _)
      refine region ?_;refine S Mv ?_;refine sLenS (TK rfl) rfl rfl rfl rfl fun hL25=>?_;refine S As (nil ?_);exact hK5 _ (n5,((a0.length:Nat):Int)) Weak.toA hE (Nat.lt_succ_self _)
     refine seqR (S Mv (S As (nil ?_)));exact rt hE
    refine AWp.exit ?_;exact hK2 _ s1_6 Weak.toA hE
 rintro s1_3 hE;try dsimp only at hE
 unfold Z130_j2 at hE;refine seqR (S Mv (S As (nil ?_)));exact rt hE
def Tryz.lay138_ren:Go.Shelf.Ren:=⟨fun|152=>138|137=>147|119=>161|224=>108|225=>107|217=>106|266=>136|n=>n,fun|9=>9|21=>21|3=>3|4=>4|5=>5|0=>0|46=>151|n=>n,fun|n=>n⟩
theorem Tryz.lay138:Go.Proofs.Lays.n152 Tryz.prog Tryz.lay138_ren:={
 mixed:=by kernel_rfl
 f119:=Tryz.func161.trans (congrArg some (by kernel_rfl))
 f137:=Tryz.func147.trans (congrArg some (by kernel_rfl))
 f152:=Tryz.func138.trans (congrArg some (by kernel_rfl))
 f217:=Tryz.func106.trans (congrArg some (by kernel_rfl))
 f224:=Tryz.func108.trans (congrArg some (by kernel_rfl))
 f225:=Tryz.func107.trans (congrArg some (by kernel_rfl))
 f266:=Tryz.func136.trans (congrArg some (by kernel_rfl))
 t0:=Tryz.underlying0
 a0:=Tryz.isAgg0
 z0:=Tryz.sizeOf0
 v0:=Tryz.zeroValue0
 t3:=Tryz.underlying3
 a3:=Tryz.isAgg3
 z3:=Tryz.sizeOf3
 v3:=Tryz.zeroValue3
 t4:=Tryz.underlying4
 a4:=Tryz.isAgg4
 z4:=Tryz.sizeOf4
 v4:=Tryz.zeroValue4
 t5:=Tryz.underlying5
 a5:=Tryz.isAgg5
 z5:=Tryz.sizeOf5
 v5:=Tryz.zeroValue5
 t9:=Tryz.underlying9
 a9:=Tryz.isAgg9
 z9:=Tryz.sizeOf9
 v9:=Tryz.zeroValue9
 t21:=Tryz.underlying21
 a21:=Tryz.isAgg21
 z21:=Tryz.sizeOf21
 v21:=Tryz.zeroValue21
 t46:=Tryz.underlying151
 a46:=Tryz.isAgg151
 z46:=Tryz.sizeOf151
 v46:=Tryz.zeroValue151 }
def Z120 (s:Bs) (r:Int):Option Int:=idxRuneC s r
theorem Z120_walk {a0:Bs}{a1 r:Int}(hE:Z120 a0 a1=some r) (H:Heap):ACalls Tryz.prog 138 [.d (.str a0),.d (.int .i32 a1)] H fun v h'=>v=.a (.d (.int .i64 r))/\h'=H:=idxRune_calls Tryz.lay138 hE rfl
def Z116 (a0:Bs) (a1:Int):Option Bool:=(Z120 a0 a1).bind fun x3=>some (decide ((0:Int)<=x3))
theorem Z116_walk {a0:Bs}{a1:Int}{r:Bool}(hE:Z116 a0 a1=some r) (H:Heap) :ACalls Tryz.prog 111 [.d (.str a0),.d (.int .i32 a1)] H fun v h'=>v=.a (.d (.bool r))/\h'=H:=by
 unfold Z116 at hE;refine ACalls.oW 9 [.tmp 4] Tryz.call111 Tryz.func111 ?_;refine seqR (S As (nil ?_));refine seqR (S Mv (S Mv ?_));obtain⟨x3,gx3,hE⟩:=bO hE;refine Sc rfl rfl (Z120_walk gx3) ?_;refine S BI (S As (nil ?_));exact rt hE
def Z28 (a0:Bs) (a1:Bs):Option Bool:=guardO ((decide (((a1.length:Nat):Int)<=((a0.length:Nat):Int)))) (cutC a0 none (some ((a1.length:Nat):Int))) ([]:Bs) fun x5=>some ((decide (((a1.length:Nat):Int)<=((a0.length:Nat):Int)))&&((x5==a1)))
theorem Z28_walk {a0 a1:Bs}{r:Bool}(hE:Z28 a0 a1=some r) (H:Heap) :ACalls Tryz.prog 142 [.d (.str a0),.d (.str a1)] H fun v h'=>v=.a (.d (.bool r))/\h'=H:=by
 unfold Z28 at hE;refine ACalls.oW 18 [.tmp 4] Tryz.call142 Tryz.func142 ?_;refine seqR (S As (nil ?_));refine seqR (S Mv ?_);refine sLenS (TK rfl) rfl rfl rfl rfl fun hL3=>?_;refine S Mv ?_;refine sLenS (TK rfl) rfl rfl rfl rfl fun hL4=>?_;refine S BI (S Mv (G0 Mv (G0 Mv ?_)));refine gC rfl rfl (fun hC=>ungdA (k:=12) rfl (lenS (TK rfl) rfl rfl rfl)) rfl ?_;obtain⟨x5,gx5,hE⟩:=gO hE;refine gC rfl rfl (fun hC=>ungdA (k:=11) rfl (ungdA (k:=13) rfl (cutM (l:=none) (r:=(some ((a1.length:Nat):Int))) (TK rfl) rfl rfl trivial rfl (by simp) (gx5 hC)))) rfl ?_
 refine G0 Mv ?_;refine G2 14 15 rfl rfl BS ?_;refine S PA (S As (nil ?_));exact rt hE
def Z117 (a0:Bs) (a1:Bs):Option Bool:=(Z28 a0 a1).bind fun x3=>some x3
theorem Z117_walk {a0 a1:Bs}{r:Bool}(hE:Z117 a0 a1=some r) (H:Heap) :ACalls Tryz.prog 112 [.d (.str a0),.d (.str a1)] H fun v h'=>v=.a (.d (.bool r))/\h'=H:=by
 unfold Z117 at hE;refine ACalls.oW 8 [.tmp 4] Tryz.call112 Tryz.func112 ?_;refine seqR (S As (nil ?_));refine seqR (S Mv (S Mv ?_));obtain⟨x3,gx3,hE⟩:=bO hE;refine Sc rfl rfl (Z28_walk gx3) ?_;refine S As (nil ?_);exact rt hE
def Z131_j2  (s1_3:Int):Option Int:=some s1_3
def Z131_l5 (a0:Bs) (a2:(Int->Option Bool)) :Nat->Int->Option Int
 | 0,_=>none
 | n5+1,s1_6=>guardO ((decide (s1_6<((a0.length:Nat):Int)))) (idxC a0 s1_6) (0:UInt8) fun x10=>guardO ((decide (s1_6<((a0.length:Nat):Int)))) (a2 (IntKind.wrap .i32 ((x10.toNat:Nat):Int))) false fun x11=>bif ((decide (s1_6<((a0.length:Nat):Int)))&&x11) then((addC s1_6 (1:Int)).bind fun x13=>(Z131_l5 a0 a2 n5) x13) else(Z131_j2   s1_6)
def Z131 (a0:Bs) (a1:Int) (a2:(Int->Option Bool)):Option Int:=Z131_l5 a0 a2 F0 a1
theorem Z131_walk {a0:Bs}{a1:Int}{a2:Int->Option Bool}{cl2:List D}{k2:Nat}{r:Int}(hE:Z131 a0 a1 a2=some r) (H:Heap) (hf2:∀x0 r,a2 x0=some r->∀H,ACalls Tryz.prog k2 ([.d (.int .i32 x0)]++cl2.map A.d) H fun v h'=>v=.a (.d (.bool r))/\h'=H):ACalls Tryz.prog 113 [.d (.str a0),.d (.int .i64 a1),.d (.func k2 cl2)] H fun v h'=>v=.a (.d (.int .i64 r))/\h'=H:=by
 unfold Z131 at hE;refine ACalls.oW 22 [.tmp 6] Tryz.call113 Tryz.func113 ?_;refine seqR (S As (nil ?_));refine seqJH KeepsT.nil (fun(z:Int)=>[(1,.a (.d (.int .i64 z)))]) (fun z=>H) (fun z=>Z131_j2 z=some r) ?_ ?_
 ·intro K2 hK2;refine block ?_;refine loopH (TA 0 (TA 2 KeepsT.nil)) (fun(z:Nat×Int)=>[(1,.a (.d (.int .i64 z.2)))]) (fun z=>H) (fun z=>z.1) (fun z=>Z131_l5 a0 a2 z.1 z.2=some r) (F0,a1) hE Weak.toA ?_;rintro ⟨n5,s1_6⟩ hE K5 hK5;try dsimp only at hE
  cases n5 with
  | zero=>cases hE
  | succ n5 =>
    rw [Z131_l5] at hE;refine seqK fun K7 hK7=>?_;refine seqR (S Mv (S Mv ?_));refine sLenS (TK rfl) rfl rfl rfl rfl fun hL9=>?_;refine S BI (S Mv (G0 Mv (G0 Mv (G0 Mv ?_))));obtain⟨x10,gx10,hE⟩:=gO hE;refine gC rfl rfl (fun hC=>ungdA (k:=13) rfl (ungdA (k:=14) rfl (idxS (TK rfl) rfl rfl rfl (gx10 hC)))) rfl ?_;refine gC rfl rfl (fun hC=>ungdA (k:=15) rfl (convI (TK rfl) (TK rfl) rfl rfl)) rfl ?_;obtain⟨x11,gx11,hE⟩:=gO hE
    refine gC rfl rfl (fun hC=>ungdA (k:=12) rfl (ungdA (k:=16) rfl (callP rfl rfl (hf2 _ _ (gx11 hC))))) rfl ?_;refine S PA (nil ?_);refine cE hE (fun hc12 hE=>?_) (fun hc12 hE=>?_)
    ·refine sk hK7 ?_;clear hK7 K7;refine block ?_;refine region ?_;refine S Mv ?_;obtain⟨x13,gx13,hE⟩:=bO hE;refine s0 (addM rfl rfl gx13) rfl ?_;refine S As (nil ?_);exact hK5 _ (n5,x13) Weak.toA hE (Nat.lt_succ_self _)
    refine AWp.exit ?_;exact hK2 _ s1_6 Weak.toA hE
 rintro s1_3 hE;try dsimp only at hE
 unfold Z131_j2 at hE;refine seqR (S Mv (S As (nil ?_)));exact rt hE
def Z127 (a0:Int):Option Bool:=some (((((decide ((97:Int)<=a0))&&(decide (a0<=(122:Int))))||((decide ((65:Int)<=a0))&&(decide (a0<=(90:Int)))))||((decide ((48:Int)<=a0))&&(decide (a0<=(57:Int)))))||(decide (a0=(95:Int))))
theorem Z127_walk {a0:Int}{r:Bool}(hE:Z127 a0=some r) (H:Heap) :ACalls Tryz.prog 114 [.d (.int .i32 a0)] H fun v h'=>v=.a (.d (.bool r))/\h'=H:=by
 unfold Z127 at hE;refine ACalls.oW 29 [.tmp 2] Tryz.call114 Tryz.func114 ?_;refine seqR (S As (nil ?_));refine seqR (S Mv (S BI (S Mv (G0 Mv ?_))));refine G1 6 rfl BI ?_;refine S PA (S Mv (G0 Mv ?_));refine G1 10 rfl BI ?_;refine G1 11 rfl Mv ?_;refine G0 Mv ?_;refine G1 13 rfl BI ?_;refine gC rfl rfl (fun hC=>ungdA (k:=12) rfl (pickAndA rfl rfl rfl)) rfl ?_;refine S PO (S Mv (G0 Mv ?_));refine G1 18 rfl BI ?_
 refine G1 19 rfl Mv ?_;refine G0 Mv ?_;refine G1 21 rfl BI ?_;refine gC rfl rfl (fun hC=>ungdA (k:=20) rfl (pickAndA rfl rfl rfl)) rfl ?_;refine S PO (S Mv (G0 Mv ?_));refine G1 26 rfl BI ?_;refine S PO (S As (nil ?_));exact rt hE
def Z123 (a0:Bs):Option (Int×Int):=none
theorem Z123_walk {a0:Bs}{r:Int×Int}(hE:Z123 a0=some r) (H:Heap) :ACalls Tryz.prog 115 [.d (.str a0)] H fun v h'=>v=.tup [.d (.int .i64 r.1),.d (.int .i64 r.2)]/\h'=H:=by cases hE
def Z128 (a0:Bs) (a1:Int):Option Int:=none
theorem Z128_walk {a0:Bs}{a1 r:Int}(hE:Z128 a0 a1=some r) (H:Heap) :ACalls Tryz.prog 116 [.d (.str a0),.d (.int .i64 a1)] H fun v h'=>v=.a (.d (.int .i64 r))/\h'=H:=by cases hE
def Z125 (a0:Bs):Option (Bs×Int):=none
theorem Z125_walk {a0:Bs}{r:Bs×Int}(hE:Z125 a0=some r) (H:Heap) :ACalls Tryz.prog 117 [.d (.str a0)] H fun v h'=>v=.tup [.d (.str r.1),.d (.int .i64 r.2)]/\h'=H:=by cases hE
def Z129 (a0:Bs) (a1:Int):Option (Z8×Int×Int):=(idxC a0 a1).bind fun x3=>(Z116 ([33,36,38,40,41,58,61,64,91,93,123,124,125]:Bs) (IntKind.wrap .i32 ((x3.toNat:Nat):Int))).bind fun x6=>bif x6 then((addC a1 (1:Int)).bind fun x9=>(cutC a0 (some a1) (some x9)).bind fun x10=>(addC a1 (1:Int)).bind fun x11=>some ((Z8.mk (1:Int) x10 a1),x11,(0:Int))) else(bif (decide ((IntKind.wrap .i32 ((x3.toNat:Nat):Int))=(46:Int))) then((cutC a0 (some a1) none).bind fun x16=>(Z117 x16 ([46,46,46]:Bs)).bind fun x17=>bif (!x17) then(some ((Z8.mk (0:Int) ([]:Bs) (0:Int)),(0:Int),(3:Int))) else((addC a1 (3:Int)).bind fun x21=>some ((Z8.mk (1:Int) ([46,46,46]:Bs) a1),x21,(0:Int)))) else(bif ((decide ((IntKind.wrap .i32 ((x3.toNat:Nat):Int))=(45:Int)))||((decide ((48:Int)<=(IntKind.wrap .i32 ((x3.toNat:Nat):Int))))&&(decide ((IntKind.wrap .i32 ((x3.toNat:Nat):Int))<=(57:Int))))) then((addC a1 (1:Int)).bind fun x25=>(Z131 a0 x25 Z127).bind fun x26=>(cutC a0 (some a1) (some x26)).bind fun x28=>(Z123 x28).bind fun x29=>(cutC a0 (some a1) (some x26)).bind fun x31=>some ((Z8.mk (3:Int) x31 a1),x26,x29.2)) else((Z127 (IntKind.wrap .i32 ((x3.toNat:Nat):Int))).bind fun x33=>bif x33 then((Z131 a0 a1 Z127).bind fun x36=>(subC x36 a1).bind fun x39=>bif (decide ((64:Int)<x39)) then(some ((Z8.mk (0:Int) ([]:Bs) (0:Int)),(0:Int),(3:Int))) else((cutC a0 (some a1) (some x36)).bind fun x43=>some ((Z8.mk (2:Int) x43 a1),x36,(0:Int)))) else(bif (decide ((IntKind.wrap .i32 ((x3.toNat:Nat):Int))=(34:Int))) then((Z128 a0 a1).bind fun x47=>bif (decide (x47<(0:Int))) then(some ((Z8.mk (0:Int) ([]:Bs) (0:Int)),(0:Int),(3:Int))) else((cutC a0 (some a1) (some x47)).bind fun x53=>(Z125 x53).bind fun x54=>some ((Z8.mk (4:Int) x54.1 a1),x47,x54.2))) else(some ((Z8.mk (0:Int) ([]:Bs) (0:Int)),(0:Int),(3:Int)))))))
theorem Z129_walk {a0:Bs}{a1:Int}{r:Z8×Int×Int}(hE:Z129 a0 a1=some r) (H:Heap) :ACalls Tryz.prog 82 [.d (.str a0),.d (.int .i64 a1)] H fun v h'=>v=.tup [.agg (Z8.c r.1),.d (.int .i64 r.2.1),.d (.int .i64 r.2.2)]/\h'=H:=by
 unfold Z129 at hE;refine ACalls.oW 116 [.cell 4 97,.tmp 5,.tmp 6] Tryz.call82 Tryz.func82 ?_;refine seqR ?_;refine Sl ?_;refine S As (S As (nil ?_));refine seqR (S Mv (S Mv ?_));obtain⟨x3,gx3,hE⟩:=bO hE;refine s0 (idxS (TK rfl) rfl rfl rfl gx3) rfl ?_;refine s0 (convI (TK rfl) (TK rfl) rfl rfl) rfl ?_;refine S As (nil ?_);refine seqK fun K4 hK4=>?_;refine block ?_;refine seqR (S Mv ?_);obtain⟨x6,gx6,hE⟩:=bO hE
 refine Sc rfl rfl (Z116_walk gx6) ?_;refine S As (nil ?_);refine cE hE (fun hc7 hE=>?_) (fun hc7 hE=>?_)
 ·refine seqR (S Mv (S Mv (S Mv ?_)));obtain⟨x9,gx9,hE⟩:=bO hE;refine s0 (addM rfl rfl gx9) rfl ?_;obtain⟨x10,gx10,hE⟩:=bO hE;refine s0 (cutM (l:=(some a1)) (r:=(some x9)) (TK rfl) rfl rfl rfl rfl (by simp) gx10) rfl ?_;refine S Mv (S BU (S Mv ?_));obtain⟨x11,gx11,hE⟩:=bO hE;refine s0 (addM rfl rfl gx11) rfl ?_;refine Sf ?_;refine S As (S As (nil ?_));exact rt hE
 refine seqR (S Mv (S BI (S As (nil ?_))));refine cE hE (fun hc13 hE=>?_) (fun hc13 hE=>?_)
 ·refine seqK fun K14 hK14=>?_;refine seqR (S Mv (S Mv ?_));obtain⟨x16,gx16,hE⟩:=bO hE;refine s0 (cutM (l:=(some a1)) (r:=none) (TK rfl) rfl rfl rfl trivial (by simp) gx16) rfl ?_;obtain⟨x17,gx17,hE⟩:=bO hE;refine Sc rfl rfl (Z117_walk gx17) ?_;refine S NB (nil ?_);refine cE hE (fun hc18 hE=>?_) (fun hc18 hE=>?_)
  ·refine seqR (S BU ?_);refine Sf ?_;refine S As (S As (nil ?_));exact rt hE
  refine sk hK14 ?_;clear hK14 K14;refine seqR (S Mv (S BU (S Mv ?_)));obtain⟨x21,gx21,hE⟩:=bO hE;refine s0 (addM rfl rfl gx21) rfl ?_;refine Sf ?_;refine S As (S As (nil ?_));exact rt hE
 refine seqR (S Mv (S BI (S Mv (G0 Mv ?_))));refine G1 48 rfl BI ?_;refine G1 49 rfl Mv ?_;refine G0 Mv ?_;refine G1 51 rfl BI ?_;refine gC rfl rfl (fun hC=>ungdA (k:=50) rfl (pickAndA rfl rfl rfl)) rfl ?_;refine S PO (S As (nil ?_));refine cE hE (fun hc23 hE=>?_) (fun hc23 hE=>?_)
 ·refine seqR (S Mv (S Mv ?_));obtain⟨x25,gx25,hE⟩:=bO hE;refine s0 (addM rfl rfl gx25) rfl ?_;obtain⟨x26,gx26,hE⟩:=bO hE;refine s0 (callP rfl rfl (fun H=>Z131_walk gx26 H (fun _ _ hx=>Z127_walk hx))) rfl ?_;refine S As (nil ?_);refine seqR (S Mv (S Mv (S Mv ?_)));obtain⟨x28,gx28,hE⟩:=bO hE;refine s0 (cutM (l:=(some a1)) (r:=(some x26)) (TK rfl) rfl rfl rfl rfl (by simp) gx28) rfl ?_;obtain⟨x29,gx29,hE⟩:=bO hE
  refine Sc rfl rfl (Z123_walk gx29) ?_;refine S Mv (S EX (S EX (S As (S As (nil ?_)))));refine seqR (S Mv (S Mv (S Mv ?_)));obtain⟨x31,gx31,hE⟩:=bO hE;refine s0 (cutM (l:=(some a1)) (r:=(some x26)) (TK rfl) rfl rfl rfl rfl (by simp) gx31) rfl ?_;refine S Mv (S BU (S Mv (S Mv ?_)));refine Sf ?_;refine S As (S As (nil ?_));exact rt hE
 refine seqR (S Mv ?_);obtain⟨x33,gx33,hE⟩:=bO hE;refine Sc rfl rfl (Z127_walk gx33) ?_;refine S As (nil ?_);refine cE hE (fun hc34 hE=>?_) (fun hc34 hE=>?_)
 ·refine seqR (S Mv (S Mv ?_));obtain⟨x36,gx36,hE⟩:=bO hE;refine s0 (callP rfl rfl (fun H=>Z131_walk gx36 H (fun _ _ hx=>Z127_walk hx))) rfl ?_;refine S As (nil ?_);refine seqK fun K37 hK37=>?_;refine seqR (S Mv (S Mv ?_));obtain⟨x39,gx39,hE⟩:=bO hE;refine s0 (subM rfl rfl gx39) rfl ?_;refine S BI (nil ?_);refine cE hE (fun hc40 hE=>?_) (fun hc40 hE=>?_)
  ·refine seqR (S BU ?_);refine Sf ?_;refine S As (S As (nil ?_));exact rt hE
  refine sk hK37 ?_;clear hK37 K37;refine seqR (S Mv (S Mv (S Mv ?_)));obtain⟨x43,gx43,hE⟩:=bO hE;refine s0 (cutM (l:=(some a1)) (r:=(some x36)) (TK rfl) rfl rfl rfl rfl (by simp) gx43) rfl ?_;refine S Mv (S BU (S Mv ?_));refine Sf ?_;refine S As (S As (nil ?_));exact rt hE
 refine seqR (S Mv (S BI (S As (nil ?_))));refine cE hE (fun hc45 hE=>?_) (fun hc45 hE=>?_)
 ·refine seqR (S Mv (S Mv ?_));obtain⟨x47,gx47,hE⟩:=bO hE;refine Sc rfl rfl (Z128_walk gx47) ?_;refine S As (nil ?_);refine seqK fun K48 hK48=>?_;refine seqR (S Mv (S BI (nil ?_)));refine cE hE (fun hc50 hE=>?_) (fun hc50 hE=>?_)
  ·refine seqR (S BU ?_);refine Sf ?_;refine S As (S As (nil ?_));exact rt hE
  refine sk hK48 ?_;clear hK48 K48;refine seqR (S Mv (S Mv (S Mv ?_)));obtain⟨x53,gx53,hE⟩:=bO hE;refine s0 (cutM (l:=(some a1)) (r:=(some x47)) (TK rfl) rfl rfl rfl rfl (by simp) gx53) rfl ?_;obtain⟨x54,gx54,hE⟩:=bO hE;refine Sc rfl rfl (Z125_walk gx54) ?_;refine S Mv (S EX (S EX (S As (S As (nil ?_)))));refine seqR (S Mv (S Mv (S BU (S Mv (S Mv ?_)))));refine Sf ?_;refine S As (S As (nil ?_));exact rt hE
 refine sk hK4 ?_;clear hK4 K4;refine seqR (S BU ?_);refine Sf ?_;refine S As (S As (nil ?_));exact rt hE
end Go.Proofs

namespace Go.Proofs
open Go Go.Ab
open AOps Cert AWp Keeps KeepsT
variable {lou:Lou}
def Z126_j8 (a0:Bs)  (s5_9:(Sl Z8)):Option ((Sl Z8)×Int×Int):=(appC 32 s5_9 (⟨false,[(Z8.mk (5:Int) ([]:Bs) ((a0.length:Nat):Int))]⟩:Sl Z8)).bind fun x12=>some (x12,(0:Int),(0:Int))
def Z126_l15 (a0:Bs) :Nat->(Sl Z8)->Int->Option ((Sl Z8)×Int×Int)
 | 0,_,_=>none
 | n15+1,s5_16,s6_17=>bif (decide (s6_17<((a0.length:Nat):Int))) then((Z129 a0 s6_17).bind fun x24=>bif (!decide (x24.2.2=(0:Int))) then(some ((Sl.nil:Sl Z8),s6_17,x24.2.2)) else((appC 32 s5_16 (⟨false,[x24.1]⟩:Sl Z8)).bind fun x30=>(Z130 a0 x24.2.1).bind fun x31=>(Z126_l15 a0 n15) x30 x31)) else(Z126_j8 a0  s5_16)
def Z126 (a0:Bs):Option ((Sl Z8)×Int×Int):=bif (decide ((65536:Int)<((a0.length:Nat):Int))) then(some ((Sl.nil:Sl Z8),(65536:Int),(4:Int))) else((Z130 a0 (0:Int)).bind fun x14=>Z126_l15 a0 F0 (Sl.nil:Sl Z8) x14)
theorem Z126_walk {a0:Bs}{r:((Sl Z8)×Int×Int)}(hE:Z126 a0=some r) (H:Heap) :ACalls Tryz.prog 46 [.d (.str a0)] H fun v h'=>v=.tup [.d (Sl.d 3 Z8.c none r.1),.d (.int .i64 r.2.1),.d (.int .i64 r.2.2)]/\h'=H:=by
 unfold Z126 at hE;refine ACalls.oW 44 [.tmp 2,.tmp 3,.tmp 4] Tryz.call46 Tryz.func46 ?_;refine AWp.tok 3 fun tk1 htk1=>?_;refine seqR ?_;refine s0 (assignNil (k':=3) rfl) rfl ?_;refine S As (S As (nil ?_));refine seqK fun K2 hK2=>?_;refine seqR (S Mv ?_);refine sLenS (TK rfl) rfl rfl rfl rfl fun hL4=>?_;refine S BI (nil ?_);refine cE hE (fun hc5 hE=>?_) (fun hc5 hE=>?_)
 ·refine seqR ?_;refine s0 (assignNil (k':=3) rfl) rfl ?_;refine S As (S As (nil ?_));refine AWp.ret ?_;repeat (first|refine xBlock_ret ?_|refine xThen_ret ?_)
  obtain rfl:=Option.some.inj hE;refine retQ.retF H rfl ⟨rfl,rfl⟩ ?_
  first|exact Heap.sub_set htk1|(simp only [Heap.set_set]; exact Heap.sub_set htk1)
 refine sk hK2 ?_;clear hK2 K2;refine seqR (S As (nil ?_));refine AWp.nilTok 5 3 tk1 rfl hpG ?_;refine seqJH (TA 0 KeepsT.nil) (fun(z:(Sl Z8))=>[(5,.a (.d (Sl.d 3 Z8.c (some tk1) z)))]) (fun z=>(H.set tk1 (some (.tok 3 z.l.length)))) (fun z=>Z126_j8 a0 z=some r) ?_ ?_
 ·intro K8 hK8;refine seqR (S Mv ?_);obtain⟨x14,gx14,hE⟩:=bO hE;refine Sc rfl rfl (Z130_walk gx14) ?_;refine S As (nil ?_);refine block ?_;refine loopH (TA 0 KeepsT.nil) (fun(z:Nat×(Sl Z8)×Int)=>[(5,.a (.d (Sl.d 3 Z8.c (some tk1) z.2.1))),(6,.a (.d (.int .i64 z.2.2)))]) (fun z=>(H.set tk1 (some (.tok 3 z.2.1.l.length)))) (fun z=>z.1) (fun z=>Z126_l15 a0 z.1 z.2.1 z.2.2=some r) (F0,(Sl.nil:Sl Z8),x14) hE Weak.toA ?_
  rintro ⟨n15,s5_16,s6_17⟩ hE K15 hK15;try dsimp only at hE
  cases n15 with
  | zero=>cases hE
  | succ n15 =>
    rw [Z126_l15] at hE;refine seqK fun K18 hK18=>?_;refine seqR (S Mv (S Mv ?_));refine sLenS (TK rfl) rfl rfl rfl rfl fun hL20=>?_;refine S BI (nil ?_);refine cE hE (fun hc21 hE=>?_) (fun hc21 hE=>?_)
    ·refine sk hK18 ?_;clear hK18 K18;refine seqK fun K22 hK22=>?_;refine block ?_;refine seqR (S Mv (S Mv ?_));obtain⟨x24,gx24,hE⟩:=bO hE;refine Sc rfl rfl (Z129_walk gx24) ?_;refine S Mv (S EX (S EX (S EX ?_)));refine Sl ?_;refine Sf ?_;refine S As (S As (nil ?_));refine freezeA 7 _ rfl (KA 0 (KA 5 (KA 6 (KA 8 (KA 9 Keeps.nil))))) ?_;refine seqK fun K25 hK25=>?_;refine seqR (S Mv (S BI (nil ?_)))
     refine cE hE (fun hc27 hE=>?_) (fun hc27 hE=>?_)
     ·refine seqR (S Mv (S Mv ?_));refine s0 (assignNil (k':=3) rfl) rfl ?_;refine S As (S As (nil ?_));refine AWp.ret ?_;repeat (first|refine xBlock_ret ?_|refine xThen_ret ?_)
      obtain rfl:=Option.some.inj hE;refine retQ.retF H rfl ⟨rfl,rfl⟩ ?_
      first|exact Heap.sub_set htk1|(simp only [Heap.set_set]; exact Heap.sub_set htk1)
     refine sk hK25 ?_;clear hK25 K25;refine seqR (S Mv (S Ld (S BV ?_)));obtain⟨x30,gx30,hE⟩:=bO hE;refine SH (am Z8.c (TK rfl) rfl (TK rfl) (TK rfl) gx30) ?_;refine hq (H.set tk1 (some (.tok 3 x30.l.length))) ?_;refine S As (nil ?_);refine region ?_;refine S Mv (S As (nil ?_));refine hK22 _ ?_;clear hK22 K22;refine region ?_;refine S Mv (S Mv ?_);obtain⟨x31,gx31,hE⟩:=bO hE;refine Sc rfl rfl (Z130_walk gx31) ?_
     refine S As (nil ?_);exact hK15 _ (n15,x30,x31) Weak.toA hE (Nat.lt_succ_self _)
    refine AWp.exit ?_;exact hK8 _ s5_16 Weak.toA hE
 rintro s5_9 hE;try dsimp only at hE
 unfold Z126_j8 at hE;refine seqR (S Mv (S Mv ?_));refine sLenS (TK rfl) rfl rfl rfl rfl fun hL11=>?_;refine S BU (S BV ?_);obtain⟨x12,gx12,hE⟩:=bO hE;refine SH (am Z8.c (TK rfl) rfl (TK rfl) (TK rfl) gx12) ?_;refine hq (H.set tk1 (some (.tok 3 x12.l.length))) ?_;refine S As (S As (S As (nil ?_)));refine AWp.dropTok 2 rfl ?_;refine AWp.ret ?_;repeat (first|refine xBlock_ret ?_|refine xThen_ret ?_)
 obtain rfl:=Option.some.inj hE;refine retQ.retF H rfl ⟨rfl,rfl⟩ ?_
 first|exact Heap.sub_set htk1|(simp only [Heap.set_set]; exact Heap.sub_set htk1)
def Tryz.lay47_ren:Go.Shelf.Ren:=⟨fun|35=>47|n=>n,fun|22=>47|23=>3|3=>3|4=>4|0=>0|n=>n,fun|n=>n⟩
theorem Tryz.lay47:Go.Proofs.SlLaysE.n35 Tryz.prog Tryz.lay47_ren:={
 mixed:=by kernel_rfl
 f35:=⟨Tryz.f47.name,by decide,Tryz.func47.trans (congrArg some (by kernel_rfl))⟩
 t0:=Tryz.underlying0
 a0:=Tryz.isAgg0
 z0:=Tryz.sizeOf0
 v0:=Tryz.zeroValue0
 t3:=Tryz.underlying3
 a3:=Tryz.isAgg3
 z3:=Tryz.sizeOf3
 v3:=Tryz.zeroValue3
 t4:=Tryz.underlying4
 a4:=Tryz.isAgg4
 z4:=Tryz.sizeOf4
 v4:=Tryz.zeroValue4
 t22:=Tryz.underlying47
 a22:=Tryz.isAgg47
 z22:=Tryz.sizeOf47
 v22:=Tryz.zeroValue47
 a23:=Tryz.isAgg3
 z23:=Tryz.sizeOf3 }
theorem Z108_walk {s:Sl Int}{H:Heap}{id m:Nat}{nl:Bool}(hH:H id=some (.arr 1 (s.l.map (intE .i64)))) (hm:m=s.l.length):ACalls Tryz.prog 47 [.d (.arr 1 id nl m)] H fun r h'=>r=.tup []/\h'=H.set id (some (.arr 1 ((Sl.rev s).l.map (intE .i64)))) :=
 revI_calls Tryz.lay47 hH hm rfl
def Z137_j22  (s4_23:(Sl Z8)) (y24_l0:TRef) (y25_l1:TRef):Option (TRef×Int):=(s4_23.l[0]?).bind fun x28=>bif (!decide (x28.FKind=(5:Int))) then(some ((TRef.mk ([]:Bs) (Sl.nil:Sl Int)),(3:Int))) else(bif (decide ((24:Int)<((y25_l1.FWraps.l.length:Nat):Int))) then(some ((TRef.mk ([]:Bs) (Sl.nil:Sl Int)),(5:Int))) else((some (Sl.rev y25_l1.FWraps)).bind fun x37=>some ((TRef.mk y25_l1.FName x37),(0:Int))))
def Z137_j44 (s8_41:Int) (y42_l0:TRef) (k_next_39:(Sl Z8)->Int->TRef->TRef->Option (TRef×Int)) (s4_45:(Sl Z8)) (y46_l1:TRef):Option (TRef×Int):=bif (decide (s8_41=(0:Int))) then(Z137_j22   s4_45 y42_l0 y46_l1) else((s4_45.l[0]?).bind fun x52=>guardO (!(!decide (x52.FKind=(1:Int)))) (s4_45.l[0]?) Z8.zero fun x53=>bif ((!decide (x52.FKind=(1:Int)))||(!(x53.FText==([93]:Bs)))) then(some ((TRef.mk ([]:Bs) (Sl.nil:Sl Int)),(3:Int))) else((appC 8 y46_l1.FWraps (⟨false,[(2:Int)]⟩:Sl Int)).bind fun x56=>(partC s4_45 (some (1:Int)) none).bind fun x57=>(subC s8_41 (1:Int)).bind fun x58=>k_next_39 x57 x58 y42_l0 (TRef.mk y46_l1.FName x56)))
def Z137_l39 :Nat->(Sl Z8)->Int->TRef->TRef->Option (TRef×Int)
 | 0,_,_,_,_=>none
 | n39+1,s4_40,s8_41,y42_l0,y43_l1=>(s4_40.l[0]?).bind fun x60=>guardO ((decide (x60.FKind=(1:Int)))) (s4_40.l[0]?) Z8.zero fun x61=>bif ((decide (x60.FKind=(1:Int)))&&((x61.FText==([33]:Bs)))) then((appC 8 y43_l1.FWraps (⟨false,[(1:Int)]⟩:Sl Int)).bind fun x63=>(partC s4_40 (some (1:Int)) none).bind fun x64=>Z137_j44 s8_41 y42_l0 ((Z137_l39  n39)) x64 (TRef.mk y43_l1.FName x63)) else(Z137_j44 s8_41 y42_l0 ((Z137_l39  n39)) s4_40 y43_l1)
def Z137_j11  (s4_12:(Sl Z8)) (s8_13:Int):Option (TRef×Int):=(s4_12.l[0]?).bind fun x16=>bif (!decide (x16.FKind=(2:Int))) then(some ((TRef.mk ([]:Bs) (Sl.nil:Sl Int)),(3:Int))) else((s4_12.l[0]?).bind fun x20=>(partC s4_12 (some (1:Int)) none).bind fun x21=>Z137_l39 F0 x21 s8_13 TRef.zero (TRef.mk x20.FText TRef.zero.FWraps))
def Z137_l65 :Nat->(Sl Z8)->Int->Option (TRef×Int)
 | 0,_,_=>none
 | n65+1,s4_66,s8_67=>(s4_66.l[0]?).bind fun x70=>guardO ((decide (x70.FKind=(1:Int)))) (s4_66.l[0]?) Z8.zero fun x71=>bif ((decide (x70.FKind=(1:Int)))&&((x71.FText==([91]:Bs)))) then((addC s8_67 (1:Int)).bind fun x73=>(partC s4_66 (some (1:Int)) none).bind fun x74=>(Z137_l65  n65) x74 x73) else(Z137_j11   s4_66 s8_67)
def Z137 (a0:Bs):Option (TRef×Int):=(Z126 a0).bind fun x3=>bif (!decide (x3.2.2=(0:Int))) then(some ((TRef.mk ([]:Bs) (Sl.nil:Sl Int)),x3.2.2)) else(Z137_l65 F0 x3.1 (0:Int))
theorem Z137_walk {a0:Bs}{r:TRef×Int}(hE:Z137 a0=some r) (H:Heap) :ACalls Tryz.prog 21 [.d (.str a0)] H fun v h'=>v=.tup [.agg (TRef.c r.1),.d (.int .i64 r.2)]/\h'=H:=by
 unfold Z137 at hE;refine ACalls.oW 106 [.cell 2 49,.tmp 3] Tryz.call21 Tryz.func21 ?_;refine seqR ?_;refine Sl ?_;refine S As (nil ?_);refine seqR (S Mv ?_);obtain⟨x3,gx3,hE⟩:=bO hE;refine Sc rfl rfl (Z126_walk gx3) ?_;refine S Mv (S EX (S EX (S EX (S As (S As (S As (nil ?_)))))));refine seqK fun K4 hK4=>?_;refine seqR (S Mv (S BI (nil ?_)));refine cE hE (fun hc6 hE=>?_) (fun hc6 hE=>?_)
 ·refine seqR (S BU (S Mv ?_));refine Sf ?_;refine S As (nil ?_);exact rt hE
 refine sk hK4 ?_;clear hK4 K4;refine seqR ?_;refine Sl ?_;refine AOps.arrO 1 fun tk7_9 htk7_9=>?_;refine AOps.relocal 1 _ rfl (fun j w cs hh hx=>arr_cell 1 1 1 hh (t:=tk7_9) hpG hx rfl) ?_;refine nil ?_;refine seqR (S As (nil ?_));refine seqJH (TA 2 (TA 7 KeepsT.nil)) (fun(z:(Sl Z8)×Int)=>[(4,.a (.d (Sl.d 3 Z8.c none z.1))),(8,.a (.d (.int .i64 z.2)))]) (fun z=>(H.set tk7_9 (some (.arr 1 [])))) (fun z=>Z137_j11 z.1 z.2=some r) ?_ ?_
 ·intro K11 hK11;refine block ?_;refine loopH (TA 2 (TA 7 KeepsT.nil)) (fun(z:Nat×(Sl Z8)×Int)=>[(4,.a (.d (Sl.d 3 Z8.c none z.2.1))),(8,.a (.d (.int .i64 z.2.2)))]) (fun z=>(H.set tk7_9 (some (.arr 1 [])))) (fun z=>z.1) (fun z=>Z137_l65 z.1 z.2.1 z.2.2=some r) (F0,x3.1,(0:Int)) hE Weak.toA ?_;rintro ⟨n65,s4_66,s8_67⟩ hE K65 hK65;try dsimp only at hE
  cases n65 with
  | zero=>cases hE
  | succ n65 =>
    rw [Z137_l65] at hE;refine seqK fun K68 hK68=>?_;refine seqR (S Mv ?_);obtain⟨x70,gx70,hE⟩:=bO hE;refine S (ix Z8.c 0 gx70) (S Fv (S Ld (S BI (S Mv (G0 Mv ?_)))));obtain⟨x71,gx71,hE⟩:=gO hE;refine gC rfl rfl (fun hC=>ungdA (k:=25) rfl (idxMn (f:=Z8.c) (n:=0) (TK rfl) rfl (TK rfl) rfl rfl rfl (gx71 hC))) rfl ?_;refine G1 26 rfl Fv ?_;refine G1 27 rfl Ld ?_;refine G1 28 rfl BS ?_;refine S PA (nil ?_)
    refine cE hE (fun hc72 hE=>?_) (fun hc72 hE=>?_)
    ·refine sk hK68 ?_;clear hK68 K68;refine block ?_;refine AWp.draw rfl ?_;refine Sd Mv ?_;obtain⟨x73,gx73,hE⟩:=bO hE;refine DOps.s0 (addM rfl rfl gx73) rfl ?_;refine Sd Mv ?_;obtain⟨x74,gx74,hE⟩:=bO hE;refine DOps.s0 (partM (f:=Z8.c) (l:=(some (1:Int))) (r:=none) (TK rfl) rfl (TK rfl) rfl rfl rfl trivial gx74) rfl ?_;refine Sd As (Sd As ?_);refine DOps.nil (by decide +kernel) ?_;exact hK65 _ (n65,x74,x73) Weak.toA hE (Nat.lt_succ_self _)
    refine AWp.exit ?_;exact hK11 _ (s4_66,s8_67) Weak.toA hE
 rintro ⟨s4_12,s8_13⟩ hE;try dsimp only at hE
 unfold Z137_j11 at hE;refine seqK fun K14 hK14=>?_;refine seqR (S Mv ?_);obtain⟨x16,gx16,hE⟩:=bO hE;refine S (ix Z8.c 0 gx16) (S Fv (S Ld (S BI (nil ?_))));refine cE hE (fun hc17 hE=>?_) (fun hc17 hE=>?_)
 ·refine seqR (S BU ?_);refine Sf ?_;refine S As (nil ?_);refine AWp.ret ?_;repeat (first|refine xBlock_ret ?_|refine xThen_ret ?_)
  obtain rfl:=Option.some.inj hE;refine retQ.retF H rfl ⟨rfl,rfl⟩ ?_
  first|exact Heap.sub_set htk7_9|(simp only [Heap.set_set]; exact Heap.sub_set htk7_9)
 refine sk hK14 ?_;clear hK14 K14;refine AWp.seqD (Sd Mv ?_);obtain⟨x20,gx20,hE⟩:=bO hE;refine Sd (ix Z8.c 0 gx20) (Sd Fv (Sd Ld (Sd Mv ?_)));obtain⟨x21,gx21,hE⟩:=bO hE;refine DOps.s0 (partM (f:=Z8.c) (l:=(some (1:Int))) (r:=none) (TK rfl) rfl (TK rfl) rfl rfl rfl trivial gx21) rfl ?_;refine Sd FL ?_;refine DOps.sLn (storeL1 (TK rfl) rfl rfl rfl rfl (by repeat (first|exact SetAt.zero|apply SetAt.succ)) (by repeat (first|exact SetAt.zero|apply SetAt.succ))) ?_
 refine Sd As ?_;refine DOps.nil (by decide +kernel) ?_;refine seqJ (TA 2 (TA 7 KeepsT.nil)) (fun(z:(Sl Z8)×TRef×TRef)=>[(4,.a (.d (Sl.d 3 Z8.c none z.1)))]) (fun z=>[TRef.c z.2.1,(strE z.2.2.FName++[.arr 1 tk7_9 z.2.2.FWraps.nl z.2.2.FWraps.l.length])]) (fun z=>(H.set tk7_9 (some (.arr 1 (z.2.2.FWraps.l.map (intE .i64)))))) (fun z=>Z137_j22 z.1 z.2.1 z.2.2=some r) ?_ ?_
 ·intro K22 hK22;refine block ?_;refine loopO (TA 2 (TA 7 KeepsT.nil)) (fun(z:Nat×(Sl Z8)×Int×TRef×TRef)=>[(4,.a (.d (Sl.d 3 Z8.c none z.2.1))),(8,.a (.d (.int .i64 z.2.2.1)))]) (fun z=>[TRef.c z.2.2.2.1,(strE z.2.2.2.2.FName++[.arr 1 tk7_9 z.2.2.2.2.FWraps.nl z.2.2.2.2.FWraps.l.length])]) (fun z=>(H.set tk7_9 (some (.arr 1 (z.2.2.2.2.FWraps.l.map (intE .i64)))))) (fun z=>z.1) (fun z=>Z137_l39 z.1 z.2.1 z.2.2.1 z.2.2.2.1 z.2.2.2.2=some r) (F0,x21,s8_13,TRef.zero,(TRef.mk x20.FText TRef.zero.FWraps)) hE Weak.toA ?_
  rintro ⟨n39,s4_40,s8_41,y42_l0,y43_l1⟩ hE K39 hK39;try dsimp only at hE
  cases n39 with
  | zero=>cases hE
  | succ n39 =>
    rw [Z137_l39] at hE;refine block ?_;refine seqJ (TA 2 (TA 7 (TA 8 KeepsT.nil))) (fun(z:(Sl Z8)×TRef)=>[(4,.a (.d (Sl.d 3 Z8.c none z.1)))]) (fun z=>[TRef.c y42_l0,(strE z.2.FName++[.arr 1 tk7_9 z.2.FWraps.nl z.2.FWraps.l.length])]) (fun z=>(H.set tk7_9 (some (.arr 1 (z.2.FWraps.l.map (intE .i64)))))) (fun z=>Z137_j44 s8_41 y42_l0 ((Z137_l39 n39)) z.1 z.2=some r) ?_ ?_
    ·intro K44 hK44;refine seqR (S Mv ?_);obtain⟨x60,gx60,hE⟩:=bO hE;refine S (ix Z8.c 0 gx60) (S Fv (S Ld (S BI (S Mv (G0 Mv ?_)))));obtain⟨x61,gx61,hE⟩:=gO hE;refine gC rfl rfl (fun hC=>ungdA (k:=54) rfl (idxMn (f:=Z8.c) (n:=0) (TK rfl) rfl (TK rfl) rfl rfl rfl (gx61 hC))) rfl ?_;refine G1 55 rfl Fv ?_;refine G1 56 rfl Ld ?_;refine G1 57 rfl BS ?_;refine S PA (nil ?_);refine cE hE (fun hc62 hE=>?_) (fun hc62 hE=>?_)
     ·refine AWp.draw rfl ?_;refine Sd FL (Sd LL (Sd BV ?_));obtain⟨x63,gx63,hE⟩:=bO hE;refine DOps.sH (appR (f:=(intE .i64)) (s:=y43_l1.FWraps) (TK rfl) rfl (TK rfl) (TK rfl) ⟨_,rfl⟩ rfl rfl rfl rfl rfl rfl hpG (by first|rfl|simp [Sl.setL,Sl.nil,sortL_len]) rfl gx63) rfl ?_;refine DOps.Dh (H.set tk7_9 (some (.arr 1 (x63.l.map (intE .i64))))) ?_;refine Sd Mv ?_;obtain⟨x64,gx64,hE⟩:=bO hE;refine DOps.s0 (partM (f:=Z8.c) (l:=(some (1:Int))) (r:=none) (TK rfl) rfl (TK rfl) rfl rfl rfl trivial gx64) rfl ?_
      refine Sd FL ?_;refine DOps.sLn (storeL1 (TK rfl) rfl rfl rfl rfl (by repeat (first|exact SetAt.zero|apply SetAt.succ)) (by repeat (first|exact SetAt.zero|apply SetAt.succ))) ?_;refine Sd As ?_;refine DOps.nil (by decide +kernel) ?_;exact hK44 _ (x64,(TRef.mk y43_l1.FName x63)) Weak.toA hE
     refine AWp.skip ?_;exact hK44 _ (s4_40,y43_l1) Weak.toA hE
    rintro ⟨s4_45,y46_l1⟩ hE;try dsimp only at hE
    unfold Z137_j44 at hE;refine seqK fun K47 hK47=>?_;refine seqR (S Mv (S BI (nil ?_)));refine cE hE (fun hc49 hE=>?_) (fun hc49 hE=>?_)
    ·refine AWp.exit ?_;exact hK22 _ (s4_45,y42_l0,y46_l1) Weak.toA hE
    refine sk hK47 ?_;clear hK47 K47;refine seqK fun K50 hK50=>?_;refine seqR (S Mv ?_);obtain⟨x52,gx52,hE⟩:=bO hE;refine S (ix Z8.c 0 gx52) (S Fv (S Ld (S BI (S Mv (G0 Mv ?_)))));obtain⟨x53,gx53,hE⟩:=gO hE;refine gC rfl rfl (fun hC=>ungdA (k:=75) rfl (idxMn (f:=Z8.c) (n:=0) (TK rfl) rfl (TK rfl) rfl rfl rfl (gx53 hC))) rfl ?_;refine G1 76 rfl Fv ?_;refine G1 77 rfl Ld ?_;refine G1 78 rfl BS ?_;refine S PO (nil ?_)
    refine cE hE (fun hc54 hE=>?_) (fun hc54 hE=>?_)
    ·refine seqR (S BU ?_);refine Sf ?_;refine S As (nil ?_);refine AWp.ret ?_;repeat (first|refine xBlock_ret ?_|refine xThen_ret ?_)
     obtain rfl:=Option.some.inj hE;refine retQ.retF H rfl ⟨rfl,rfl⟩ ?_
     first|exact Heap.sub_set htk7_9|(simp only [Heap.set_set]; exact Heap.sub_set htk7_9)
    refine sk hK50 ?_;clear hK50 K50;refine AWp.draw rfl ?_;refine Sd FL (Sd LL (Sd BV ?_));obtain⟨x56,gx56,hE⟩:=bO hE;refine DOps.sH (appR (f:=(intE .i64)) (s:=y46_l1.FWraps) (TK rfl) rfl (TK rfl) (TK rfl) ⟨_,rfl⟩ rfl rfl rfl rfl rfl rfl hpG (by first|rfl|simp [Sl.setL,Sl.nil,sortL_len]) rfl gx56) rfl ?_;refine DOps.Dh (H.set tk7_9 (some (.arr 1 (x56.l.map (intE .i64))))) ?_;refine Sd Mv ?_;obtain⟨x57,gx57,hE⟩:=bO hE
    refine DOps.s0 (partM (f:=Z8.c) (l:=(some (1:Int))) (r:=none) (TK rfl) rfl (TK rfl) rfl rfl rfl trivial gx57) rfl ?_;refine Sd Mv ?_;obtain⟨x58,gx58,hE⟩:=bO hE;refine DOps.s0 (subM rfl rfl gx58) rfl ?_;refine Sd FL ?_;refine DOps.sLn (storeL1 (TK rfl) rfl rfl rfl rfl (by repeat (first|exact SetAt.zero|apply SetAt.succ)) (by repeat (first|exact SetAt.zero|apply SetAt.succ))) ?_;refine Sd As (Sd As ?_)
    refine DOps.nil (by decide +kernel) ?_;exact hK39 _ (n39,x57,x58,y42_l0,(TRef.mk y46_l1.FName x56)) Weak.toA hE (Nat.lt_succ_self _)
 rintro ⟨s4_23,y24_l0,y25_l1⟩ hE;try dsimp only at hE
 unfold Z137_j22 at hE;refine seqK fun K26 hK26=>?_;refine seqR (S Mv ?_);obtain⟨x28,gx28,hE⟩:=bO hE;refine S (ix Z8.c 0 gx28) (S Fv (S Ld (S BI (nil ?_))));refine cE hE (fun hc29 hE=>?_) (fun hc29 hE=>?_)
 ·refine seqR (S BU ?_);refine Sf ?_;refine S As (nil ?_);refine AWp.ret ?_;repeat (first|refine xBlock_ret ?_|refine xThen_ret ?_)
  obtain rfl:=Option.some.inj hE;refine retQ.retF H rfl ⟨rfl,rfl⟩ ?_
  first|exact Heap.sub_set htk7_9|(simp only [Heap.set_set]; exact Heap.sub_set htk7_9)
 refine sk hK26 ?_;clear hK26 K26;refine seqK fun K31 hK31=>?_;refine seqR (S FL (S LL ?_));refine AOps.sLenR (f:=(intE .i64)) (l:=y25_l1.FWraps.l) (TK rfl) rfl rfl rfl hpG (by first|rfl|simp [Sl.setL,Sl.nil,sortL_len]) rfl fun hL33=>?_;refine S BI (nil ?_);refine cE hE (fun hc34 hE=>?_) (fun hc34 hE=>?_)
 ·refine seqR (S BU ?_);refine Sf ?_;refine S As (nil ?_);refine AWp.ret ?_;repeat (first|refine xBlock_ret ?_|refine xThen_ret ?_)
  obtain rfl:=Option.some.inj hE;refine retQ.retF H rfl ⟨rfl,rfl⟩ ?_
  first|exact Heap.sub_set htk7_9|(simp only [Heap.set_set]; exact Heap.sub_set htk7_9)
 refine sk hK31 ?_;clear hK31 K31;refine seqR (S FL (S LL ?_));obtain⟨x37,gx37,hE⟩:=bO hE;have ex37:=Option.some.inj gx37;refine sH (callH rfl rfl (Z108_walk (s:=y25_l1.FWraps) hpG (by first|rfl|simp [Sl.setL,Sl.nil,sortL_len]))) rfl ?_;refine AOps.heq (h':=(H.set tk7_9 (some (.arr 1 (x37.l.map (intE .i64)))))) (by subst ex37; exact(by first|rfl|(rw [Heap.set_set]; rfl)|(funext n_; simp only [Heap.set]; (repeat' split)<;>first|rfl|(exfalso; simp_all; done)|(simp_all; done)))) ?_
 refine AOps.relocal 1 (strE (TRef.mk y25_l1.FName x37).FName++[.arr 1 tk7_9 (TRef.mk y25_l1.FName x37).FWraps.nl (TRef.mk y25_l1.FName x37).FWraps.l.length]) rfl (fun j w cs hh hx=>by subst ex37; first|exact hx|simpa [Sl.rev] using hx) ?_;refine nil ?_;refine seqK fun K38 hK38=>?_;refine AWp.frzL 1 1 tk7_9 rfl rfl hpG (by first|rfl|(simp [Sl.setL,Sl.nil,sortL_len]; done)|(subst_vars; first|rfl|(simp [Sl.setL,Sl.nil,sortL_len]; done))) ?_
 refine AWp.heqA (h':=H) (by first|rfl|(rw [Heap.set_set]; rfl)|(funext n_; simp only [Heap.set]; (repeat' split)<;>first|rfl|(exfalso; simp_all; done)|(simp_all; done))) ?_;refine region ?_;refine S LL ?_;refine Sf ?_;refine S As (nil ?_);refine hK38 _ ?_;clear hK38 K38;exact rt hE
def Tryz.lay148_ren:Go.Shelf.Ren:=⟨fun|10=>148|6=>165|n=>n,fun|22=>47|23=>3|25=>172|3=>3|4=>4|0=>0|n=>n,fun|n=>n⟩
theorem Tryz.lay148:Go.Proofs.SlLaysH.n10 Tryz.prog Tryz.lay148_ren:={
 mixed:=by kernel_rfl
 f6:=⟨Tryz.f165.name,by decide,Tryz.func165.trans (congrArg some (by kernel_rfl))⟩
 f10:=⟨Tryz.f148.name,by decide,Tryz.func148.trans (congrArg some (by kernel_rfl))⟩
 t0:=Tryz.underlying0
 a0:=Tryz.isAgg0
 z0:=Tryz.sizeOf0
 v0:=Tryz.zeroValue0
 t3:=Tryz.underlying3
 a3:=Tryz.isAgg3
 z3:=Tryz.sizeOf3
 v3:=Tryz.zeroValue3
 t4:=Tryz.underlying4
 a4:=Tryz.isAgg4
 z4:=Tryz.sizeOf4
 v4:=Tryz.zeroValue4
 t22:=Tryz.underlying47
 a22:=Tryz.isAgg47
 z22:=Tryz.sizeOf47
 v22:=Tryz.zeroValue47
 a23:=Tryz.isAgg3
 z23:=Tryz.sizeOf3
 t25:=Tryz.underlying172
 a25:=Tryz.isAgg172
 z25:=Tryz.sizeOf172
 v25:=Tryz.zeroValue172 }
theorem Z104_walk {s:Sl Int}{f:Int->Option Bool}{g:Nat}(ht:∀x,∃z,f x=some z) (eg:∀args w,(callFunc g args).run Tryz.prog w=.ok (.enter g args) w) (hg:∀x z w,f x=some z->Calls Tryz.prog g #[.int .i64 x] w fun e w'=>e=.returned (.bool z)/\w'=w)
  {H:Heap}{id m:Nat}{nl:Bool}(hH:H id=some (.arr 1 (s.l.map (intE .i64)))) (hm:m=s.l.length) (hn:nl=s.nl):ACalls Tryz.prog 148 [.d (.arr 1 id nl m),.d (.func g [])] H fun r h'=>r=.a (.d (Sl.d 1 (intE .i64) none (delL f s)))/\h'=H.set id none :=
 delI_calls Tryz.lay148 Tryz.zeroValue3 ht eg hg hH hm hn rfl
def Z101 (a0:(Sl Int)):Option (Sl Int):=bif a0.nl then(some (Sl.nil:Sl Int)) else((appC 8 (⟨false,[]⟩:Sl Int) a0).bind fun x7=>some x7)
theorem Z101_walk {a0:Sl Int}{w0:Option Nat}{r:Sl Int}(hE:Z101 a0=some r) (H:Heap) :ACalls Tryz.prog 149 [.d (Sl.d 1 (intE .i64) w0 a0)] H fun v h'=>v=.a (.d (Sl.d 1 (intE .i64) none r))/\h'=H:=by
 unfold Z101 at hE;refine ACalls.oW 8 [.tmp 2] Tryz.call149 Tryz.func149 ?_;refine seqR ?_;refine s0 (assignNil (k':=1) rfl) rfl ?_;refine nil ?_;refine seqK fun K2 hK2=>?_;refine seqR (S Mv ?_);refine s0 (eqNil (TK rfl) rfl rfl) rfl ?_;refine nil ?_;refine cE hE (fun hc4 hE=>?_) (fun hc4 hE=>?_)
 ·refine seqR ?_;refine s0 (assignNil (k':=1) rfl) rfl ?_;refine nil ?_;exact rt hE
 refine sk hK2 ?_;clear hK2 K2;refine seqR ?_;refine s0 (buildSliceF (TK rfl) rfl (TK rfl) rfl rfl rfl rfl rfl rfl) rfl ?_;refine S Mv ?_;obtain⟨x7,gx7,hE⟩:=bO hE;refine s0 (appFM (f:=(intE .i64)) (TK rfl) rfl (TK rfl) (TK rfl) ⟨_,rfl⟩ rfl rfl (by decide) rfl rfl rfl (by intro q h; cases h<;>decide) rfl rfl gx7) rfl ?_;refine S As (nil ?_);exact rt hE
theorem Z101_arr {a0:Sl Int}{w0:Option Nat}{ar0:Nat}{r:Sl Int}(hE:Z101 a0=some r) (H:Heap) (har0:H ar0=some (.arr 1 [])) :ACalls Tryz.prog 149 [.d (Sl.d 1 (intE .i64) w0 a0)] H fun v h'=>v=.a (.d (.arr 1 ar0 r.nl r.l.length))/\h'=H.set ar0 (some (.arr 1 (r.l.map (intE .i64)))):=by
 unfold Z101 at hE;refine ACalls.oW 8 [.tmp 2] Tryz.call149 Tryz.func149 ?_;refine AWp.heqA (h':=(H.set ar0 (some (.arr 1 [])))) (by funext n_; simp only [Heap.set]; (repeat' split)<;>simp_all) ?_;refine seqR ?_;refine s0 (assignNil (k':=1) rfl) rfl ?_;refine AOps.nilR 2 1 ar0 rfl hpG ?_;refine nil ?_;refine seqK fun K2 hK2=>?_;refine seqR (S Mv ?_);refine s0 (eqNil (TK rfl) rfl rfl) rfl ?_;refine nil ?_
 refine cE hE (fun hc4 hE=>?_) (fun hc4 hE=>?_)
 ·refine seqR ?_;refine s0 (assignNil (k':=1) rfl) rfl ?_;refine AOps.nilR 2 1 ar0 rfl hpG ?_;refine nil ?_;exact rt hE
 refine sk hK2 ?_;clear hK2 K2;refine seqR ?_;refine s0 (buildSliceF (TK rfl) rfl (TK rfl) rfl rfl rfl rfl rfl rfl) rfl ?_;refine AOps.fullR 5 1 ar0 rfl hpG ?_;refine S Mv ?_;obtain⟨x7,gx7,hE⟩:=bO hE;refine sH (appR (f:=(intE .i64)) (s:=(⟨false,[]⟩:Sl Int)) (TK rfl) rfl (TK rfl) (TK rfl) ⟨_,rfl⟩ rfl rfl rfl rfl rfl rfl hpG (by first|rfl|simp [Sl.setL,Sl.nil,sortL_len]) rfl gx7) rfl ?_;refine hq (H.set ar0 (some (.arr 1 (x7.l.map (intE .i64))))) ?_
 refine S As (nil ?_);exact rt hE
def Z143 (a0:Int):Option Bool:=some (decide (a0=(1:Int)))
theorem Z143_tot (x:Int):∃z,Z143 x=some z:=⟨_,rfl⟩
theorem Z143_enter (args:Array Value) (w:World):(callFunc 150 args).run Tryz.prog w=.ok (.enter 150 args) w:=Tryz.call150 args w
theorem Z143_calls (x:Int) (z:Bool) (w:World) (h:Z143 x=some z):Calls Tryz.prog 150 #[.int .i64 x] w fun e w'=>e=.returned (.bool z)/\w'=w:=by
 obtain rfl:=Option.some.inj h
 go_enter Tryz.func150,Tryz.ntmps150
 go_wp2
 go_ret
 exact⟨rfl,rfl⟩
def Z142 (a0:(Sl Int)):Option (Sl Int):=(Z101 a0).bind fun x3=>(some (delL Z143 x3)).bind fun x4=>some x4
theorem Z142_walk {a0:Sl Int}{w0:Option Nat}{r:Sl Int}(hE:Z142 a0=some r) (H:Heap) :ACalls Tryz.prog 118 [.d (Sl.d 1 (intE .i64) w0 a0)] H fun v h'=>v=.a (.d (Sl.d 1 (intE .i64) none r))/\h'=H:=by
 unfold Z142 at hE;refine ACalls.oW 6 [.tmp 2] Tryz.call118 Tryz.func118 ?_;refine AWp.arrO 1 fun ar1 har1=>?_;refine seqR ?_;refine s0 (assignNil (k':=1) rfl) rfl ?_;refine nil ?_;refine seqR (S Mv ?_);obtain⟨x3,gx3,hE⟩:=bO hE;refine sH (callH rfl rfl (Z101_arr gx3 _ hpG)) rfl ?_;refine hq (H.set ar1 (some (.arr 1 (x3.l.map (intE .i64))))) ?_;obtain⟨x4,gx4,hE⟩:=bO hE;have ex4:=Option.some.inj gx4
 refine sH (callH rfl rfl (Z104_walk (s:=x3) (f:=Z143) Z143_tot Z143_enter Z143_calls hpG (by first|rfl|simp [Sl.setL,Sl.nil,sortL_len]) rfl)) rfl ?_;refine hq H ?_;rw [ex4];refine S As (nil ?_);exact rt hE
def Z140 (a0:TRef) (a1:TRef):Option Bool:=guardO (((a0.FName==a1.FName))) (Z142 a0.FWraps) (Sl.nil:Sl Int) fun x3=>guardO (((a0.FName==a1.FName))) (Z142 a1.FWraps) (Sl.nil:Sl Int) fun x4=>guardO (((a0.FName==a1.FName))) (Z106 x3 x4) false fun x5=>some (((a0.FName==a1.FName))&&x5)
theorem Z140_walk {a0 a1:TRef}{r:Bool}(hE:Z140 a0 a1=some r) (H:Heap) :ACalls Tryz.prog 83 [.agg (TRef.c a0),.agg (TRef.c a1)] H fun v h'=>v=.a (.d (.bool r))/\h'=H:=by
 unfold Z140 at hE;refine ACalls.oW 19 [.tmp 4] Tryz.call83 Tryz.func83 ?_;refine seqR (S BX (S BX (S As (nil ?_))));refine AWp.seqD (Sd Fv (Sd Ld (Sd Fv (Sd Ld (Sd BS (Sd Mv (G0d Fv ?_)))))));refine G1d 11 rfl Ld ?_;obtain⟨x3,gx3,hE⟩:=gO hE;refine Gc1d 12 rfl rfl rfl rfl rfl (fun hC=>Z142_walk (gx3 hC)) ?_;refine G0d Fv ?_;refine G1d 14 rfl Ld ?_;obtain⟨x4,gx4,hE⟩:=gO hE;refine Gc1d 15 rfl rfl rfl rfl rfl (fun hC=>Z142_walk (gx4 hC)) ?_
 obtain⟨x5,gx5,hE⟩:=gO hE;refine Gc2d 13 16 rfl rfl rfl rfl rfl rfl (fun hC=>Z106_walk (gx5 hC)) ?_;refine Sd PA (Sd As ?_);refine DOps.nil (by decide +kernel) ?_;exact rt hE
def Z135 (a0:TRef):Option Bool:=guardO ((decide ((0:Int)<((a0.FWraps.l.length:Nat):Int)))) (a0.FWraps.l[0]?) (0:Int) fun x4=>some ((decide ((0:Int)<((a0.FWraps.l.length:Nat):Int)))&&(decide (x4=(1:Int))))
theorem Z135_walk {a0:TRef}{r:Bool}(hE:Z135 a0=some r) (H:Heap) :ACalls Tryz.prog 84 [.agg (TRef.c a0)] H fun v h'=>v=.a (.d (.bool r))/\h'=H:=by
 unfold Z135 at hE;refine ACalls.oW 14 [.tmp 2] Tryz.call84 Tryz.func84 ?_;refine seqR (S BX (S As (nil ?_)));refine seqR (S Fv (S Ld ?_));refine sLen (f:=(intE .i64)) (s:=a0.FWraps) (TK rfl) rfl rfl rfl rfl fun hL3=>?_;refine S BI (S Mv (G0 Fv ?_));refine G1 8 rfl Ld ?_;obtain⟨x4,gx4,hE⟩:=gO hE;refine gC rfl rfl (fun hC=>ungdA (k:=9) rfl (idxMn (f:=(intE .i64)) (n:=0) (TK rfl) rfl (TK rfl) rfl rfl rfl (gx4 hC))) rfl ?_
 refine G1 10 rfl Ld ?_;refine G1 11 rfl BI ?_;refine S PA (S As (nil ?_));exact rt hE
end Go.Proofs

namespace Go.Proofs
open Go Go.Ab
open AOps Cert AWp Keeps KeepsT
variable {lou:Lou}
def Z136_j3 (a0:TRef)  (s3_4:(Sl Int)):Option TRef:=(Z101 s3_4).bind fun x6=>some (TRef.mk a0.FName x6)
def Z136 (a0:TRef):Option TRef:=(Z135 a0).bind fun x8=>bif x8 then((partC a0.FWraps (some (1:Int)) none).bind fun x10=>Z136_j3 a0  x10) else(Z136_j3 a0  a0.FWraps)
theorem Z136_walk {a0 r:TRef}(hE:Z136 a0=some r) (H:Heap) :ACalls Tryz.prog 120 [.agg (TRef.c a0)] H fun v h'=>v=.a (.agg (TRef.c r))/\h'=H:=by
 unfold Z136 at hE;refine ACalls.oW 15 [.cell 2 49] Tryz.call120 Tryz.func120 ?_;refine seqR (S BX ?_);refine Sl ?_;refine nil ?_;refine seqR (S Fv (S Ld (S As (nil ?_))));refine seqJH (TA 1 (TA 2 KeepsT.nil)) (fun(z:(Sl Int))=>[(3,.a (.d (Sl.d 1 (intE .i64) none z)))]) (fun z=>H) (fun z=>Z136_j3 a0 z=some r) ?_ ?_
 ·intro K3 hK3;refine seqR (S Ld ?_);obtain⟨x8,gx8,hE⟩:=bO hE;refine Sc rfl rfl (Z135_walk gx8) ?_;refine nil ?_;refine cE hE (fun hc9 hE=>?_) (fun hc9 hE=>?_)
  ·refine region ?_;refine S Mv ?_;obtain⟨x10,gx10,hE⟩:=bO hE;refine s0 (partM (f:=(intE .i64)) (l:=(some (1:Int))) (r:=none) (TK rfl) rfl (TK rfl) rfl rfl rfl trivial gx10) rfl ?_;refine S As (nil ?_);exact hK3 _ x10 Weak.toA hE
  refine AWp.skip ?_;exact hK3 _ a0.FWraps Weak.toA hE
 rintro s3_4 hE;try dsimp only at hE
 unfold Z136_j3 at hE;refine AWp.seqD (Sd Fv (Sd Ld (Sd Mv ?_)));obtain⟨x6,gx6,hE⟩:=bO hE;refine Scd rfl rfl (Z101_walk gx6) ?_;refine Sd BU ?_;refine DOps.sLn (storeLFA (TK rfl) rfl rfl rfl rfl rfl) ?_;refine DOps.nil (by decide +kernel) ?_;exact rt hE
def Z134 (a0:TRef):Option Bool:=(Z136 a0).bind fun x3=>guardO ((decide ((0:Int)<((x3.FWraps.l.length:Nat):Int)))) (x3.FWraps.l[0]?) (0:Int) fun x6=>some ((decide ((0:Int)<((x3.FWraps.l.length:Nat):Int)))&&(decide (x6=(2:Int))))
theorem Z134_walk {a0:TRef}{r:Bool}(hE:Z134 a0=some r) (H:Heap) :ACalls Tryz.prog 119 [.agg (TRef.c a0)] H fun v h'=>v=.a (.d (.bool r))/\h'=H:=by
 unfold Z134 at hE;refine ACalls.oW 16 [.tmp 2] Tryz.call119 Tryz.func119 ?_;refine seqR ?_;refine sL (boxL rfl (by repeat (first|exact Snoc.nil|apply Snoc.cons))) rfl ?_;refine S As (nil ?_);refine seqR (S LL ?_);obtain⟨x3,gx3,hE⟩:=bO hE;refine Sc rfl rfl (Z136_walk gx3) ?_;refine Sf ?_;refine nil ?_;refine seqR (S FL (S LL ?_));refine sLen (f:=(intE .i64)) (s:=x3.FWraps) (TK rfl) rfl rfl rfl rfl fun hL5=>?_
 refine S BI (S Mv (G0 FL ?_));refine gC rfl rfl (fun hC=>ungdLA (k:=10) rfl (loadL (TK rfl) rfl rfl rfl rfl)) rfl ?_;obtain⟨x6,gx6,hE⟩:=gO hE;refine gC rfl rfl (fun hC=>ungdA (k:=11) rfl (idxMn (f:=(intE .i64)) (n:=0) (TK rfl) rfl (TK rfl) rfl rfl rfl (gx6 hC))) rfl ?_;refine G1 12 rfl Ld ?_;refine G1 13 rfl BI ?_;refine S PA (S As (nil ?_));exact rt hE
def Z133 (a0:TRef):Option (TRef×Bool):=(Z134 a0).bind fun x4=>bif (!x4) then(some ((TRef.mk ([]:Bs) (Sl.nil:Sl Int)),false)) else((Z136 a0).bind fun x8=>(partC x8.FWraps (some (1:Int)) none).bind fun x10=>some ((TRef.mk x8.FName x10),true))
theorem Z133_walk {a0:TRef}{r:TRef×Bool}(hE:Z133 a0=some r) (H:Heap) :ACalls Tryz.prog 85 [.agg (TRef.c a0)] H fun v h'=>v=.tup [.agg (TRef.c r.1),.d (.bool r.2)]/\h'=H:=by
 unfold Z133 at hE;refine ACalls.oW 15 [.cell 2 49,.tmp 3] Tryz.call85 Tryz.func85 ?_;refine seqR ?_;refine sL (boxL rfl (by repeat (first|exact Snoc.nil|apply Snoc.cons))) rfl ?_;refine Sl ?_;refine S As (nil ?_);refine seqK fun K2 hK2=>?_;refine seqR (S LL ?_);obtain⟨x4,gx4,hE⟩:=bO hE;refine Sc rfl rfl (Z134_walk gx4) ?_;refine S NB (nil ?_);refine cE hE (fun hc5 hE=>?_) (fun hc5 hE=>?_)
 ·refine seqR (S BU ?_);refine Sf ?_;refine S As (nil ?_);exact rt hE
 refine sk hK2 ?_;clear hK2 K2;refine seqR (S LL ?_);obtain⟨x8,gx8,hE⟩:=bO hE;refine Sc rfl rfl (Z136_walk gx8) ?_;refine Sf ?_;refine nil ?_;refine seqR (S FL (S LL ?_));obtain⟨x10,gx10,hE⟩:=bO hE;refine s0 (partM (f:=(intE .i64)) (l:=(some (1:Int))) (r:=none) (TK rfl) rfl (TK rfl) rfl rfl rfl trivial gx10) rfl ?_;refine S FL ?_;refine Sf ?_;refine nil ?_;refine seqR (S LL ?_);refine Sf ?_;refine S As (nil ?_)
 exact rt hE
def Z141_j14 (y10_l0:TRef) (y11_l1:TRef) (y12_l2:TRef) (k_next_9:TRef->TRef->TRef->TRef->Option (TRef×Bool)) (y15_l3:TRef):Option (TRef×Bool):=(Z133 y10_l0).bind fun x17=>(Z133 y11_l1).bind fun x19=>bif ((!x17.2)||(!x19.2)) then(some (y15_l3,true)) else((appC 8 y15_l3.FWraps (⟨false,[(2:Int)]⟩:Sl Int)).bind fun x25=>k_next_9 x17.1 x19.1 y12_l2 (TRef.mk y15_l3.FName x25))
def Z141_l9 :Nat->TRef->TRef->TRef->TRef->Option (TRef×Bool)
 | 0,_,_,_,_=>none
 | n9+1,y10_l0,y11_l1,y12_l2,y13_l3=>(Z135 y10_l0).bind fun x27=>guardO (x27) (Z135 y11_l1) false fun x28=>bif (x27&&x28) then((appC 8 y13_l3.FWraps (⟨false,[(1:Int)]⟩:Sl Int)).bind fun x30=>Z141_j14 y10_l0 y11_l1 y12_l2 ((Z141_l9  n9)) (TRef.mk y13_l3.FName x30)) else(Z141_j14 y10_l0 y11_l1 y12_l2 ((Z141_l9  n9)) y13_l3)
def Z141 (a0:TRef) (a1:TRef):Option (TRef×Bool):=(Z140 a0 a1).bind fun x4=>bif (!x4) then(some ((TRef.mk ([]:Bs) (Sl.nil:Sl Int)),false)) else(Z141_l9 F0 a0 a1 TRef.zero (TRef.mk a0.FName (Sl.nil:Sl Int)))
theorem Z141_walk {a0 a1:TRef}{r:TRef×Bool}(hE:Z141 a0 a1=some r) (H:Heap) :ACalls Tryz.prog 48 [.agg (TRef.c a0),.agg (TRef.c a1)] H fun v h'=>v=.tup [.agg (TRef.c r.1),.d (.bool r.2)]/\h'=H:=by
 unfold Z141 at hE;refine ACalls.oW 54 [.cell 4 49,.tmp 5] Tryz.call48 Tryz.func48 ?_;refine seqR ?_;refine sL (boxL rfl (by repeat (first|exact Snoc.nil|apply Snoc.cons))) rfl ?_;refine sL (boxL rfl (by repeat (first|exact Snoc.nil|apply Snoc.cons))) rfl ?_;refine Sl ?_;refine S As (nil ?_);refine seqK fun K2 hK2=>?_;refine seqR (S LL (S LL ?_));obtain⟨x4,gx4,hE⟩:=bO hE;refine Sc rfl rfl (Z140_walk gx4) ?_
 refine S NB (nil ?_);refine cE hE (fun hc5 hE=>?_) (fun hc5 hE=>?_)
 ·refine seqR (S BU ?_);refine Sf ?_;refine S As (nil ?_);exact rt hE
 refine sk hK2 ?_;clear hK2 K2;refine seqR (S FL (S LL (S BU ?_)));refine Sl ?_;refine AOps.tok 1 fun tk6_8 htk6_8=>?_;refine AOps.relocal 3 _ rfl (fun j w cs hh hx=>tok_cell 1 1 1 hh (t:=tk6_8) hpG hx rfl) ?_;refine Sf ?_;refine AOps.relocal 3 _ rfl (fun j w cs hh hx=>tok_cell 1 1 1 hh (t:=tk6_8) hpG hx rfl) ?_;refine nil ?_;refine block ?_;refine loopO (TA 2 (TA 3 (TA 4 (TA 6 KeepsT.nil)))) (fun(z:Nat×TRef×TRef×TRef×TRef)=>[]) (fun z=>[TRef.c z.2.1,TRef.c z.2.2.1,TRef.c z.2.2.2.1,(strE z.2.2.2.2.FName++[Sl.d 1 (intE .i64) (some tk6_8) z.2.2.2.2.FWraps])]) (fun z=>(H.set tk6_8 (some (.tok 1 z.2.2.2.2.FWraps.l.length)))) (fun z=>z.1) (fun z=>Z141_l9 z.1 z.2.1 z.2.2.1 z.2.2.2.1 z.2.2.2.2=some r) (F0,a0,a1,TRef.zero,(TRef.mk a0.FName (Sl.nil:Sl Int))) hE Weak.toA ?_
 rintro ⟨n9,y10_l0,y11_l1,y12_l2,y13_l3⟩ hE K9 hK9;try dsimp only at hE
 cases n9 with
 | zero=>cases hE
 | succ n9 =>
   rw [Z141_l9] at hE;refine block ?_;refine seqJ (TA 2 (TA 3 (TA 4 (TA 6 KeepsT.nil)))) (fun(z:TRef)=>[]) (fun z=>[TRef.c y10_l0,TRef.c y11_l1,TRef.c y12_l2,(strE z.FName++[Sl.d 1 (intE .i64) (some tk6_8) z.FWraps])]) (fun z=>(H.set tk6_8 (some (.tok 1 z.FWraps.l.length)))) (fun z=>Z141_j14 y10_l0 y11_l1 y12_l2 ((Z141_l9 n9)) z=some r) ?_ ?_
   ·intro K14 hK14;refine seqR (S LL ?_);obtain⟨x27,gx27,hE⟩:=bO hE;refine Sc rfl rfl (Z135_walk gx27) ?_;refine S Mv (G0 LL ?_);obtain⟨x28,gx28,hE⟩:=gO hE;refine Gc1 22 rfl rfl rfl rfl rfl (fun hC=>Z135_walk (gx28 hC)) ?_;refine S PA (nil ?_);refine cE hE (fun hc29 hE=>?_) (fun hc29 hE=>?_)
    ·refine region ?_;refine S FL (S LL (S BV ?_));obtain⟨x30,gx30,hE⟩:=bO hE;refine SH (am (intE .i64) (TK rfl) rfl (TK rfl) (TK rfl) gx30) ?_;refine hq (H.set tk6_8 (some (.tok 1 x30.l.length))) ?_;refine S FL ?_;refine Sf ?_;refine nil ?_;exact hK14 _ (TRef.mk y13_l3.FName x30) Weak.toA hE
    refine AWp.skip ?_;exact hK14 _ y13_l3 Weak.toA hE
   rintro y15_l3 hE;try dsimp only at hE
   unfold Z141_j14 at hE;refine seqR (S LL ?_);obtain⟨x17,gx17,hE⟩:=bO hE;refine Sc rfl rfl (Z133_walk gx17) ?_;refine S Mv (S EX (S EX ?_));refine Sl ?_;refine Sf ?_;refine S As (nil ?_);refine freezeA 7 _ rfl (KA 2 (KA 3 (KA 4 (KA 6 (KA 8 Keeps.nil))))) ?_;refine seqR (S LL ?_);obtain⟨x19,gx19,hE⟩:=bO hE;refine Sc rfl rfl (Z133_walk gx19) ?_;refine S Mv (S EX (S EX ?_));refine Sl ?_;refine Sf ?_
   refine S As (nil ?_);refine freezeA 9 _ rfl (KA 2 (KA 3 (KA 4 (KA 6 (KA 7 (KA 8 (KA 10 Keeps.nil))))))) ?_;refine seqK fun K20 hK20=>?_;refine seqR (S Mv (S NB (S Mv (G0 Mv ?_))));refine G1 43 rfl NB ?_;refine S PO (nil ?_);refine cE hE (fun hc22 hE=>?_) (fun hc22 hE=>?_)
   ·refine seqK fun K23 hK23=>?_;refine AWp.relocal 3 _ rfl (fun j w cs hh hx=>untok_cell 1 hx rfl) ?_;refine region ?_;refine S LL ?_;refine Sf ?_;refine S As (nil ?_);refine hK23 _ ?_;clear hK23 K23;refine AWp.ret ?_;repeat (first|refine xBlock_ret ?_|refine xThen_ret ?_)
    obtain rfl:=Option.some.inj hE;refine retQ.retF H rfl ⟨rfl,rfl⟩ ?_
    first|exact Heap.sub_set htk6_8|(simp only [Heap.set_set]; exact Heap.sub_set htk6_8)
   refine sk hK20 ?_;clear hK20 K20;refine seqR (S FL (S LL (S BV ?_)));obtain⟨x25,gx25,hE⟩:=bO hE;refine SH (am (intE .i64) (TK rfl) rfl (TK rfl) (TK rfl) gx25) ?_;refine hq (H.set tk6_8 (some (.tok 1 x25.l.length))) ?_;refine S FL ?_;refine Sf ?_;refine nil ?_;refine AWp.draw rfl ?_;refine Sd Ld (Sd Ld ?_);refine DOps.sLn (storeLFA (TK rfl) rfl rfl rfl rfl rfl) ?_;refine DOps.sLn (storeLFA (TK rfl) rfl rfl rfl rfl rfl) ?_
   refine DOps.nil (by decide +kernel) ?_;exact hK9 _ (n9,x17.1,x19.1,y12_l2,(TRef.mk y15_l3.FName x25)) Weak.toA hE (Nat.lt_succ_self _)
def Z132 (a0:TRef) (a1:TRef):Option Bool:=(Z141 a0 a1).bind fun x3=>guardO (x3.2) (Z139 x3.1 a1) false fun x5=>some (x3.2&&x5)
theorem Z132_walk {a0 a1:TRef}{r:Bool}(hE:Z132 a0 a1=some r) (H:Heap) :ACalls Tryz.prog 22 [.agg (TRef.c a0),.agg (TRef.c a1)] H fun v h'=>v=.a (.d (.bool r))/\h'=H:=by
 unfold Z132 at hE;refine ACalls.oW 19 [.tmp 4] Tryz.call22 Tryz.func22 ?_;refine seqR (S BX (S BX (S As (nil ?_))));refine seqR (S Ld (S Ld ?_));obtain⟨x3,gx3,hE⟩:=bO hE;refine Sc rfl rfl (Z141_walk gx3) ?_;refine S Mv (S EX (S EX ?_));refine Sl ?_;refine Sf ?_;refine S As (nil ?_);refine freezeA 5 _ rfl (KA 3 (KA 6 Keeps.nil)) ?_;refine seqR (S Mv (S Mv (G0 Ld (G0 Ld ?_))));obtain⟨x5,gx5,hE⟩:=gO hE
 refine Gc2 15 16 rfl rfl rfl rfl rfl rfl (fun hC=>Z139_walk (gx5 hC)) ?_;refine S PA (S As (nil ?_));exact rt hE
def Z9_j2  :Option Bool:=some false
def Z9_j15 (a0:Z2)  (s27_16:Bool):Option Bool:=bif s27_16 then((Z137 a0.FFrom).bind fun x19=>(Z137 a0.FTo).bind fun x21=>guardO (((decide (x19.2=(0:Int)))&&(decide (x21.2=(0:Int))))) (Z132 x19.1 x21.1) false fun x23=>some (((decide (x19.2=(0:Int)))&&(decide (x21.2=(0:Int))))&&x23)) else(Z9_j2   )
def Z9_j9 (a0:Z2)  (s14_10:Bool):Option Bool:=bif s14_10 then((Z118 a0.FTo ([33]:Bs)).bind fun x13=>guardO ((!x13)) (Z115 a0.FTo ([32,61,32]:Bs)) false fun x14=>some ((!x13)&&(!x14))) else(bif (decide (a0.FKind=(9:Int))) then(Z9_j15 a0  (decide (a0.FKind=(9:Int)))) else(Z9_j15 a0  (decide (a0.FKind=(15:Int)))))
def Z9_j5 (a0:Z2)  (s9_6:Bool):Option Bool:=bif s9_6 then(some true) else(bif (decide (a0.FKind=(8:Int))) then(Z9_j9 a0  (decide (a0.FKind=(8:Int)))) else(Z9_j9 a0  (decide (a0.FKind=(14:Int)))))
def Z9 (a0:Z2):Option Bool:=bif (decide (a0.FKind=(2:Int))) then(Z9_j5 a0  (decide (a0.FKind=(2:Int)))) else(bif (decide (a0.FKind=(5:Int))) then(Z9_j5 a0  (decide (a0.FKind=(5:Int)))) else(bif (decide (a0.FKind=(12:Int))) then(Z9_j5 a0  (decide (a0.FKind=(12:Int)))) else(Z9_j5 a0  (decide (a0.FKind=(18:Int))))))
theorem Z9_walk {a0:Z2}{oM:Ab.Obj}{gM:Nat}{r:Bool}(hE:Z9 a0=some r) (H:Heap) (hgM:H gM=some oM) (hoM:IsMax Tryz.prog oM):ACalls Tryz.prog 7 [.agg (Z2.c a0)] H fun v h'=>v=.a (.d (.bool r))/\h'=H:=by
 unfold Z9 at hE;refine ACalls.oW 53 [.tmp 2] Tryz.call7 Tryz.func7 ?_;refine seqR (S BX (S As (nil ?_)));refine seqJH KeepsT.nil (fun(z:Unit)=>[]) (fun z=>H) (fun z=>Z9_j2 =some r) ?_ ?_
 ·intro K2 hK2;refine seqR (S Fv (S Ld (nil ?_)));refine block ?_;refine seqJH (TA 1 (TA 8 KeepsT.nil)) (fun(z:Bool)=>[(9,.a (.d (.bool z)))]) (fun z=>H) (fun z=>Z9_j5 a0 z=some r) ?_ ?_
  ·intro K5 hK5;refine seqR (S BI (S As (nil ?_)));refine cE hE (fun hc29 hE=>?_) (fun hc29 hE=>?_)
   ·refine AWp.skip ?_;exact hK5 _ (decide (a0.FKind=(2:Int))) Weak.toA hE
   refine seqR (S BI (S As (nil ?_)));refine cE hE (fun hc31 hE=>?_) (fun hc31 hE=>?_)
   ·refine AWp.skip ?_;exact hK5 _ (decide (a0.FKind=(5:Int))) Weak.toA hE
   refine seqR (S BI (S As (nil ?_)));refine cE hE (fun hc33 hE=>?_) (fun hc33 hE=>?_)
   ·refine AWp.skip ?_;exact hK5 _ (decide (a0.FKind=(12:Int))) Weak.toA hE
   refine region ?_;refine S BI (S As (nil ?_));exact hK5 _ (decide (a0.FKind=(18:Int))) Weak.toA hE
  rintro s9_6 hE;try dsimp only at hE
  unfold Z9_j5 at hE;refine cE hE (fun hc7 hE=>?_) (fun hc7 hE=>?_)
  ·refine seqR (S As (nil ?_));exact rt hE
  refine seqJH (TA 1 (TA 8 KeepsT.nil)) (fun(z:Bool)=>[(14,.a (.d (.bool z)))]) (fun z=>H) (fun z=>Z9_j9 a0 z=some r) ?_ ?_
  ·intro K9 hK9;refine seqR (S BI (S As (nil ?_)));refine cE hE (fun hc27 hE=>?_) (fun hc27 hE=>?_)
   ·refine AWp.skip ?_;exact hK9 _ (decide (a0.FKind=(8:Int))) Weak.toA hE
   refine region ?_;refine S BI (S As (nil ?_));exact hK9 _ (decide (a0.FKind=(14:Int))) Weak.toA hE
  rintro s14_10 hE;try dsimp only at hE
  unfold Z9_j9 at hE;refine cE hE (fun hc11 hE=>?_) (fun hc11 hE=>?_)
  ·refine seqR (S Fv (S Ld ?_));obtain⟨x13,gx13,hE⟩:=bO hE;refine Sc rfl rfl (Z118_walk gx13) ?_;refine S NB (S Mv (G0 Fv ?_));refine G1 22 rfl Ld ?_;obtain⟨x14,gx14,hE⟩:=gO hE;refine gC rfl rfl (fun hC=>ungdA (k:=23) rfl (callR rfl rfl (Z115_walk (gM:=gM) (oM:=oM) (gx14 hC) _ hpG (by assumption)))) rfl ?_;refine G1 24 rfl NB ?_;refine S PA (S As (nil ?_));exact rt hE
  refine seqJH (TA 1 KeepsT.nil) (fun(z:Bool)=>[(27,.a (.d (.bool z)))]) (fun z=>H) (fun z=>Z9_j15 a0 z=some r) ?_ ?_
  ·intro K15 hK15;refine seqR (S BI (S As (nil ?_)));refine cE hE (fun hc25 hE=>?_) (fun hc25 hE=>?_)
   ·refine AWp.skip ?_;exact hK15 _ (decide (a0.FKind=(9:Int))) Weak.toA hE
   refine region ?_;refine S BI (S As (nil ?_));exact hK15 _ (decide (a0.FKind=(15:Int))) Weak.toA hE
  rintro s27_16 hE;try dsimp only at hE
  unfold Z9_j15 at hE;refine cE hE (fun hc17 hE=>?_) (fun hc17 hE=>?_)
  ·refine seqR (S Fv (S Ld ?_));obtain⟨x19,gx19,hE⟩:=bO hE;refine Sc rfl rfl (Z137_walk gx19) ?_;refine S Mv (S EX (S EX ?_));refine Sl ?_;refine Sf ?_;refine S As (nil ?_);refine freezeA 3 _ rfl (KA 1 (KA 4 Keeps.nil)) ?_;refine seqR (S Fv (S Ld ?_));obtain⟨x21,gx21,hE⟩:=bO hE;refine Sc rfl rfl (Z137_walk gx21) ?_;refine S Mv (S EX (S EX ?_));refine Sl ?_;refine Sf ?_;refine S As (nil ?_);refine freezeA 5 _ rfl (KA 3 (KA 4 (KA 6 Keeps.nil))) ?_
   refine seqR (S Mv (S BI (S Mv (G0 Mv ?_))));refine G1 45 rfl BI ?_;refine S PA (S Mv (G0 Ld (G0 Ld ?_)));obtain⟨x23,gx23,hE⟩:=gO hE;refine Gc2 49 50 rfl rfl rfl rfl rfl rfl (fun hC=>Z132_walk (gx23 hC)) ?_;refine S PA (S As (nil ?_));exact rt hE
  refine AWp.skip ?_;exact hK2 _ () Weak.toA hE
 rintro _ hE;try dsimp only at hE
 unfold Z9_j2 at hE;refine seqR (S As (nil ?_));exact rt hE
def Z36 (a0:TRef) (a1:Bs):Option TDoc:=some (TDoc.mk (⟨false,[(TDef.mk (1:Int) ([65]:Bs) (Sl.nil:Sl Bs) (Sl.nil:Sl TDir) (⟨false,[(Z4.mk ([120]:Bs) (⟨false,[(Z5.mk ([110]:Bs) a0 false Z7.zero (Sl.nil:Sl TDir))]⟩:Sl Z5) (TRef.mk ([73,110,116]:Bs) (Sl.nil:Sl Int)) (Sl.nil:Sl TDir)),(Z4.mk a1 (Sl.nil:Sl Z5) (TRef.mk ([73,110,116]:Bs) (Sl.nil:Sl Int)) (Sl.nil:Sl TDir))]⟩:Sl Z4) (Sl.nil:Sl Z6) (Sl.nil:Sl Z5))]⟩:Sl TDef))
theorem Z36_walk {a0:TRef}{a1:Bs}{r:TDoc}(hE:Z36 a0 a1=some r) (H:Heap) :ACalls Tryz.prog 14 [.agg (TRef.c a0),.d (.str a1)] H fun v h'=>v=.a (.agg (TDoc.c r))/\h'=H:=by
 unfold Z36 at hE;refine ACalls.oW 19 [.cell 4 24] Tryz.call14 Tryz.func14 ?_;refine seqR (S BX ?_);refine Sl ?_;refine nil ?_;refine seqR (S BU ?_);refine Sl ?_;refine Sf ?_;refine nil ?_;refine freezeA 5 _ rfl (KA 1 (KA 2 (KA 4 Keeps.nil))) ?_;refine seqR (S Ld (S Ld (S BU (S BV (S BU (S Mv (S Ld (S BU (S BV (S BU (S BV (S BU ?_))))))))))));refine Sf ?_;refine nil ?_;exact rt hE
def Z25 (a0:Int):Option Bs:=bif ((decide (a0<(1:Int)))||(decide ((18:Int)<a0))) then((Z122 a0).bind fun x7=>(catC ([67,104,97,110,103,101,32]:Bs) x7).bind fun x8=>some x8) else((idxC ([([]:Bs),([84,121,112,101,71,111,110,101]:Bs),([84,121,112,101,78,101,119]:Bs),([84,121,112,101,75,105,110,100]:Bs),([70,105,101,108,100,71,111,110,101]:Bs),([70,105,101,108,100,78,101,119]:Bs),([70,105,101,108,100,84,121,112,101]:Bs),([65,114,103,71,111,110,101]:Bs),([65,114,103,78,101,119]:Bs),([65,114,103,84,121,112,101]:Bs),([65,114,103,68,101,102,97,117,108,116]:Bs),([77,101,109,98,101,114,71,111,110,101]:Bs),([77,101,109,98,101,114,78,101,119]:Bs),([73,110,112,117,116,71,111,110,101]:Bs),([73,110,112,117,116,78,101,119]:Bs),([73,110,112,117,116,84,121,112,101]:Bs),([73,110,112,117,116,68,101,102,97,117,108,116]:Bs),([70,97,99,101,71,111,110,101]:Bs),([70,97,99,101,78,101,119]:Bs)]:List Bs) a0).bind fun x10=>some x10)
theorem Z25_walk {a0:Int}{oT:Ab.Obj}{gT:Nat}{r:Bs}(hE:Z25 a0=some r) (H:Heap) (hgT:H gT=some oT) (hoT:IsTab Tryz.prog oT):ACalls Tryz.prog 37 [.d (.int .i64 a0)] H fun v h'=>v=.a (.d (.str r))/\h'=H:=by
 unfold Z25 at hE;refine ACalls.oW 17 [.tmp 2] Tryz.call37 Tryz.func37 ?_;refine seqR (S As (nil ?_));refine seqR ?_;refine s0 (buildArr Tryz.tab_ok Tryz.underlying121 rfl rfl rfl rfl rfl) rfl ?_;refine Sl ?_;refine Sf ?_;refine nil ?_;refine freezeA 3 _ rfl (KA 0 Keeps.nil) ?_;refine seqK fun K3 hK3=>?_;refine seqR (S Mv (S BI (S Mv (G0 Mv ?_))));refine G1 8 rfl BI ?_;refine S PO (nil ?_);refine cE hE (fun hc5 hE=>?_) (fun hc5 hE=>?_)
 ·refine seqR (S Mv ?_);obtain⟨x7,gx7,hE⟩:=bO hE;refine s0 (callR rfl rfl (Z122_walk (gT:=gT) (oT:=oT) gx7 _ hpG (by assumption))) rfl ?_;obtain⟨x8,gx8,hE⟩:=bO hE;refine s0 (catM rfl rfl gx8) rfl ?_;refine S As (nil ?_);exact rt hE
 refine sk hK3 ?_;clear hK3 K3;refine seqR (S Mv ?_);obtain⟨x10,gx10,hE⟩:=bO hE;refine s0 (idxArr (f:=D.str) (l:=([([]:Bs),([84,121,112,101,71,111,110,101]:Bs),([84,121,112,101,78,101,119]:Bs),([84,121,112,101,75,105,110,100]:Bs),([70,105,101,108,100,71,111,110,101]:Bs),([70,105,101,108,100,78,101,119]:Bs),([70,105,101,108,100,84,121,112,101]:Bs),([65,114,103,71,111,110,101]:Bs),([65,114,103,78,101,119]:Bs),([65,114,103,84,121,112,101]:Bs),([65,114,103,68,101,102,97,117,108,116]:Bs),([77,101,109,98,101,114,71,111,110,101]:Bs),([77,101,109,98,101,114,78,101,119]:Bs),([73,110,112,117,116,71,111,110,101]:Bs),([73,110,112,117,116,78,101,119]:Bs),([73,110,112,117,116,84,121,112,101]:Bs),([73,110,112,117,116,68,101,102,97,117,108,116]:Bs),([70,97,99,101,71,111,110,101]:Bs),([70,97,99,101,78,101,119]:Bs)]:List Bs)) Tryz.underlying121 (TK rfl) rfl rfl rfl rfl gx10) rfl ?_
 refine S Ld (S As (nil ?_));exact rt hE
def Z24 (a0:Bs):Option Bs:=bif ((a0==([]:Bs))) then(some ([110,111,110,101]:Bs)) else(some a0)
theorem Z24_walk {a0 r:Bs}(hE:Z24 a0=some r) (H:Heap) :ACalls Tryz.prog 38 [.d (.str a0)] H fun v h'=>v=.a (.d (.str r))/\h'=H:=by
 unfold Z24 at hE;refine ACalls.oW 6 [.tmp 2] Tryz.call38 Tryz.func38 ?_;refine seqR (S As (nil ?_));refine seqK fun K2 hK2=>?_;refine seqR (S Mv (S BS (nil ?_)));refine cE hE (fun hc4 hE=>?_) (fun hc4 hE=>?_)
 ·refine seqR (S As (nil ?_));exact rt hE
 refine sk hK2 ?_;clear hK2 K2;refine seqR (S Mv (S As (nil ?_)));exact rt hE
end Go.Proofs

namespace Go.Proofs
open Go Go.Ab
open AOps Cert AWp Keeps KeepsT
variable {lou:Lou}
def Z11_j10  (s3_11:Bs):Option Bs:=some s3_11
def Z11_j8 (a0:Z2)  (s3_9:Bs):Option Bs:=bif ((!(a0.FFrom==([]:Bs)))||(!(a0.FTo==([]:Bs)))) then((Z24 a0.FFrom).bind fun x15=>(catC ([58,32]:Bs) x15).bind fun x16=>(catC x16 ([32,45,62,32]:Bs)).bind fun x17=>(Z24 a0.FTo).bind fun x18=>(catC x17 x18).bind fun x19=>(catC s3_9 x19).bind fun x20=>Z11_j10   x20) else(Z11_j10   s3_9)
def Z11_j6 (a0:Z2)  (s3_7:Bs):Option Bs:=bif (!(a0.FArg==([]:Bs))) then((catC ([40]:Bs) a0.FArg).bind fun x23=>(catC x23 ([41]:Bs)).bind fun x24=>(catC s3_7 x24).bind fun x25=>Z11_j8 a0  x25) else(Z11_j8 a0  s3_7)
def Z11 (a0:Z2):Option Bs:=(Z25 a0.FKind).bind fun x3=>(catC x3 ([32]:Bs)).bind fun x4=>(catC x4 a0.FType).bind fun x5=>bif (!(a0.FField==([]:Bs))) then((catC ([46]:Bs) a0.FField).bind fun x28=>(catC x5 x28).bind fun x29=>Z11_j6 a0  x29) else(Z11_j6 a0  x5)
theorem Z11_walk {a0:Z2}{oT:Ab.Obj}{gT:Nat}{r:Bs}(hE:Z11 a0=some r) (H:Heap) (hgT:H gT=some oT) (hoT:IsTab Tryz.prog oT):ACalls Tryz.prog 15 [.agg (Z2.c a0)] H fun v h'=>v=.a (.d (.str r))/\h'=H:=by
 unfold Z11 at hE;refine ACalls.oW 48 [.tmp 2] Tryz.call15 Tryz.func15 ?_;refine seqR (S BX (S As (nil ?_)));refine AWp.seqD (Sd Fv (Sd Ld ?_));obtain⟨x3,gx3,hE⟩:=bO hE;refine DOps.s0 (callR rfl rfl (Z25_walk (gT:=gT) (oT:=oT) gx3 _ hpG (by assumption))) rfl ?_;obtain⟨x4,gx4,hE⟩:=bO hE;refine DOps.s0 (catM rfl rfl gx4) rfl ?_;refine Sd Fv (Sd Ld ?_);obtain⟨x5,gx5,hE⟩:=bO hE;refine DOps.s0 (catM rfl rfl gx5) rfl ?_
 refine Sd As ?_;refine DOps.nil (by decide +kernel) ?_;refine seqJH (TA 1 KeepsT.nil) (fun(z:Bs)=>[(3,.a (.d (.str z)))]) (fun z=>H) (fun z=>Z11_j6 a0 z=some r) ?_ ?_
 ·intro K6 hK6;refine seqR (S Fv (S Ld (S BS (nil ?_))));refine cE hE (fun hc27 hE=>?_) (fun hc27 hE=>?_)
  ·refine region ?_;refine S Mv (S Fv (S Ld ?_));obtain⟨x28,gx28,hE⟩:=bO hE;refine s0 (catM rfl rfl gx28) rfl ?_;obtain⟨x29,gx29,hE⟩:=bO hE;refine s0 (catM rfl rfl gx29) rfl ?_;refine S As (nil ?_);exact hK6 _ x29 Weak.toA hE
  refine AWp.skip ?_;exact hK6 _ x5 Weak.toA hE
 rintro s3_7 hE;try dsimp only at hE
 unfold Z11_j6 at hE;refine seqJH (TA 1 KeepsT.nil) (fun(z:Bs)=>[(3,.a (.d (.str z)))]) (fun z=>H) (fun z=>Z11_j8 a0 z=some r) ?_ ?_
 ·intro K8 hK8;refine seqR (S Fv (S Ld (S BS (nil ?_))));refine cE hE (fun hc22 hE=>?_) (fun hc22 hE=>?_)
  ·refine region ?_;refine S Mv (S Fv (S Ld ?_));obtain⟨x23,gx23,hE⟩:=bO hE;refine s0 (catM rfl rfl gx23) rfl ?_;obtain⟨x24,gx24,hE⟩:=bO hE;refine s0 (catM rfl rfl gx24) rfl ?_;obtain⟨x25,gx25,hE⟩:=bO hE;refine s0 (catM rfl rfl gx25) rfl ?_;refine S As (nil ?_);exact hK8 _ x25 Weak.toA hE
  refine AWp.skip ?_;exact hK8 _ s3_7 Weak.toA hE
 rintro s3_9 hE;try dsimp only at hE
 unfold Z11_j8 at hE;refine seqJH KeepsT.nil (fun(z:Bs)=>[(3,.a (.d (.str z)))]) (fun z=>H) (fun z=>Z11_j10 z=some r) ?_ ?_
 ·intro K10 hK10;refine seqR (S Fv (S Ld (S BS (S Mv (G0 Fv ?_)))));refine G1 32 rfl Ld ?_;refine G1 33 rfl BS ?_;refine S PO (nil ?_);refine cE hE (fun hc14 hE=>?_) (fun hc14 hE=>?_)
  ·refine AWp.draw rfl ?_;refine Sd Mv (Sd Fv (Sd Ld ?_));obtain⟨x15,gx15,hE⟩:=bO hE;refine Scd rfl rfl (Z24_walk gx15) ?_;obtain⟨x16,gx16,hE⟩:=bO hE;refine DOps.s0 (catM rfl rfl gx16) rfl ?_;obtain⟨x17,gx17,hE⟩:=bO hE;refine DOps.s0 (catM rfl rfl gx17) rfl ?_;refine Sd Fv (Sd Ld ?_);obtain⟨x18,gx18,hE⟩:=bO hE;refine Scd rfl rfl (Z24_walk gx18) ?_;obtain⟨x19,gx19,hE⟩:=bO hE;refine DOps.s0 (catM rfl rfl gx19) rfl ?_
   obtain⟨x20,gx20,hE⟩:=bO hE;refine DOps.s0 (catM rfl rfl gx20) rfl ?_;refine Sd As ?_;refine DOps.nil (by decide +kernel) ?_;exact hK10 _ x20 Weak.toA hE
  refine AWp.skip ?_;exact hK10 _ s3_9 Weak.toA hE
 rintro s3_11 hE;try dsimp only at hE
 unfold Z11_j10 at hE;refine seqR (S Mv (S As (nil ?_)));exact rt hE
section
variable [IsLoud lou]
theorem eqt_31:eqTab Tryz.prog 31=some [.int .i64,.str,.str,.str,.str,.str]:=by kernel_rfl
def Z31 :Option Bool:=(Z36 (TRef.mk ([73,110,116]:Bs) (Sl.nil:Sl Int)) ([121]:Bs)).bind fun x4=>(Z36 (TRef.mk ([73,110,116]:Bs) (⟨false,[(1:Int)]⟩:Sl Int)) ([122]:Bs)).bind fun x5=>(Z10 x4 x5).bind fun x6=>bif (!decide (((x6.l.length:Nat):Int)=(3:Int))) then(some false) else((x6.l[0]?).bind fun x13=>guardO ((decide (x13.FKind=(Z2.mk (9:Int) ([65]:Bs) ([120]:Bs) ([110]:Bs) ([73,110,116]:Bs) ([73,110,116,33]:Bs)).FKind)&&((x13.FType==(Z2.mk (9:Int) ([65]:Bs) ([120]:Bs) ([110]:Bs) ([73,110,116]:Bs) ([73,110,116,33]:Bs)).FType)&&((x13.FField==(Z2.mk (9:Int) ([65]:Bs) ([120]:Bs) ([110]:Bs) ([73,110,116]:Bs) ([73,110,116,33]:Bs)).FField)&&((x13.FArg==(Z2.mk (9:Int) ([65]:Bs) ([120]:Bs) ([110]:Bs) ([73,110,116]:Bs) ([73,110,116,33]:Bs)).FArg)&&((x13.FFrom==(Z2.mk (9:Int) ([65]:Bs) ([120]:Bs) ([110]:Bs) ([73,110,116]:Bs) ([73,110,116,33]:Bs)).FFrom)&&((x13.FTo==(Z2.mk (9:Int) ([65]:Bs) ([120]:Bs) ([110]:Bs) ([73,110,116]:Bs) ([73,110,116,33]:Bs)).FTo)&&true))))))) (x6.l[1]?) Z2.zero fun x14=>guardO (((decide (x13.FKind=(Z2.mk (9:Int) ([65]:Bs) ([120]:Bs) ([110]:Bs) ([73,110,116]:Bs) ([73,110,116,33]:Bs)).FKind)&&((x13.FType==(Z2.mk (9:Int) ([65]:Bs) ([120]:Bs) ([110]:Bs) ([73,110,116]:Bs) ([73,110,116,33]:Bs)).FType)&&((x13.FField==(Z2.mk (9:Int) ([65]:Bs) ([120]:Bs) ([110]:Bs) ([73,110,116]:Bs) ([73,110,116,33]:Bs)).FField)&&((x13.FArg==(Z2.mk (9:Int) ([65]:Bs) ([120]:Bs) ([110]:Bs) ([73,110,116]:Bs) ([73,110,116,33]:Bs)).FArg)&&((x13.FFrom==(Z2.mk (9:Int) ([65]:Bs) ([120]:Bs) ([110]:Bs) ([73,110,116]:Bs) ([73,110,116,33]:Bs)).FFrom)&&((x13.FTo==(Z2.mk (9:Int) ([65]:Bs) ([120]:Bs) ([110]:Bs) ([73,110,116]:Bs) ([73,110,116,33]:Bs)).FTo)&&true))))))&&(decide (x14.FKind=(4:Int))))) (x6.l[2]?) Z2.zero fun x15=>guardO ((((decide (x13.FKind=(Z2.mk (9:Int) ([65]:Bs) ([120]:Bs) ([110]:Bs) ([73,110,116]:Bs) ([73,110,116,33]:Bs)).FKind)&&((x13.FType==(Z2.mk (9:Int) ([65]:Bs) ([120]:Bs) ([110]:Bs) ([73,110,116]:Bs) ([73,110,116,33]:Bs)).FType)&&((x13.FField==(Z2.mk (9:Int) ([65]:Bs) ([120]:Bs) ([110]:Bs) ([73,110,116]:Bs) ([73,110,116,33]:Bs)).FField)&&((x13.FArg==(Z2.mk (9:Int) ([65]:Bs) ([120]:Bs) ([110]:Bs) ([73,110,116]:Bs) ([73,110,116,33]:Bs)).FArg)&&((x13.FFrom==(Z2.mk (9:Int) ([65]:Bs) ([120]:Bs) ([110]:Bs) ([73,110,116]:Bs) ([73,110,116,33]:Bs)).FFrom)&&((x13.FTo==(Z2.mk (9:Int) ([65]:Bs) ([120]:Bs) ([110]:Bs) ([73,110,116]:Bs) ([73,110,116,33]:Bs)).FTo)&&true))))))&&(decide (x14.FKind=(4:Int))))&&(decide (x15.FKind=(Z2.mk (5:Int) ([65]:Bs) ([122]:Bs) ([]:Bs) ([]:Bs) ([73,110,116]:Bs)).FKind)&&((x15.FType==(Z2.mk (5:Int) ([65]:Bs) ([122]:Bs) ([]:Bs) ([]:Bs) ([73,110,116]:Bs)).FType)&&((x15.FField==(Z2.mk (5:Int) ([65]:Bs) ([122]:Bs) ([]:Bs) ([]:Bs) ([73,110,116]:Bs)).FField)&&((x15.FArg==(Z2.mk (5:Int) ([65]:Bs) ([122]:Bs) ([]:Bs) ([]:Bs) ([73,110,116]:Bs)).FArg)&&((x15.FFrom==(Z2.mk (5:Int) ([65]:Bs) ([122]:Bs) ([]:Bs) ([]:Bs) ([73,110,116]:Bs)).FFrom)&&((x15.FTo==(Z2.mk (5:Int) ([65]:Bs) ([122]:Bs) ([]:Bs) ([]:Bs) ([73,110,116]:Bs)).FTo)&&true)))))))) (x6.l[0]?) Z2.zero fun x16=>guardO ((((decide (x13.FKind=(Z2.mk (9:Int) ([65]:Bs) ([120]:Bs) ([110]:Bs) ([73,110,116]:Bs) ([73,110,116,33]:Bs)).FKind)&&((x13.FType==(Z2.mk (9:Int) ([65]:Bs) ([120]:Bs) ([110]:Bs) ([73,110,116]:Bs) ([73,110,116,33]:Bs)).FType)&&((x13.FField==(Z2.mk (9:Int) ([65]:Bs) ([120]:Bs) ([110]:Bs) ([73,110,116]:Bs) ([73,110,116,33]:Bs)).FField)&&((x13.FArg==(Z2.mk (9:Int) ([65]:Bs) ([120]:Bs) ([110]:Bs) ([73,110,116]:Bs) ([73,110,116,33]:Bs)).FArg)&&((x13.FFrom==(Z2.mk (9:Int) ([65]:Bs) ([120]:Bs) ([110]:Bs) ([73,110,116]:Bs) ([73,110,116,33]:Bs)).FFrom)&&((x13.FTo==(Z2.mk (9:Int) ([65]:Bs) ([120]:Bs) ([110]:Bs) ([73,110,116]:Bs) ([73,110,116,33]:Bs)).FTo)&&true))))))&&(decide (x14.FKind=(4:Int))))&&(decide (x15.FKind=(Z2.mk (5:Int) ([65]:Bs) ([122]:Bs) ([]:Bs) ([]:Bs) ([73,110,116]:Bs)).FKind)&&((x15.FType==(Z2.mk (5:Int) ([65]:Bs) ([122]:Bs) ([]:Bs) ([]:Bs) ([73,110,116]:Bs)).FType)&&((x15.FField==(Z2.mk (5:Int) ([65]:Bs) ([122]:Bs) ([]:Bs) ([]:Bs) ([73,110,116]:Bs)).FField)&&((x15.FArg==(Z2.mk (5:Int) ([65]:Bs) ([122]:Bs) ([]:Bs) ([]:Bs) ([73,110,116]:Bs)).FArg)&&((x15.FFrom==(Z2.mk (5:Int) ([65]:Bs) ([122]:Bs) ([]:Bs) ([]:Bs) ([73,110,116]:Bs)).FFrom)&&((x15.FTo==(Z2.mk (5:Int) ([65]:Bs) ([122]:Bs) ([]:Bs) ([]:Bs) ([73,110,116]:Bs)).FTo)&&true)))))))) (Z11 x16) ([]:Bs) fun x17=>guardO (((((decide (x13.FKind=(Z2.mk (9:Int) ([65]:Bs) ([120]:Bs) ([110]:Bs) ([73,110,116]:Bs) ([73,110,116,33]:Bs)).FKind)&&((x13.FType==(Z2.mk (9:Int) ([65]:Bs) ([120]:Bs) ([110]:Bs) ([73,110,116]:Bs) ([73,110,116,33]:Bs)).FType)&&((x13.FField==(Z2.mk (9:Int) ([65]:Bs) ([120]:Bs) ([110]:Bs) ([73,110,116]:Bs) ([73,110,116,33]:Bs)).FField)&&((x13.FArg==(Z2.mk (9:Int) ([65]:Bs) ([120]:Bs) ([110]:Bs) ([73,110,116]:Bs) ([73,110,116,33]:Bs)).FArg)&&((x13.FFrom==(Z2.mk (9:Int) ([65]:Bs) ([120]:Bs) ([110]:Bs) ([73,110,116]:Bs) ([73,110,116,33]:Bs)).FFrom)&&((x13.FTo==(Z2.mk (9:Int) ([65]:Bs) ([120]:Bs) ([110]:Bs) ([73,110,116]:Bs) ([73,110,116,33]:Bs)).FTo)&&true))))))&&(decide (x14.FKind=(4:Int))))&&(decide (x15.FKind=(Z2.mk (5:Int) ([65]:Bs) ([122]:Bs) ([]:Bs) ([]:Bs) ([73,110,116]:Bs)).FKind)&&((x15.FType==(Z2.mk (5:Int) ([65]:Bs) ([122]:Bs) ([]:Bs) ([]:Bs) ([73,110,116]:Bs)).FType)&&((x15.FField==(Z2.mk (5:Int) ([65]:Bs) ([122]:Bs) ([]:Bs) ([]:Bs) ([73,110,116]:Bs)).FField)&&((x15.FArg==(Z2.mk (5:Int) ([65]:Bs) ([122]:Bs) ([]:Bs) ([]:Bs) ([73,110,116]:Bs)).FArg)&&((x15.FFrom==(Z2.mk (5:Int) ([65]:Bs) ([122]:Bs) ([]:Bs) ([]:Bs) ([73,110,116]:Bs)).FFrom)&&((x15.FTo==(Z2.mk (5:Int) ([65]:Bs) ([122]:Bs) ([]:Bs) ([]:Bs) ([73,110,116]:Bs)).FTo)&&true)))))))&&((x17==([65,114,103,84,121,112,101,32,65,46,120,40,110,41,58,32,73,110,116,32,45,62,32,73,110,116,33]:Bs))))) (x6.l[0]?) Z2.zero fun x18=>guardO (((((decide (x13.FKind=(Z2.mk (9:Int) ([65]:Bs) ([120]:Bs) ([110]:Bs) ([73,110,116]:Bs) ([73,110,116,33]:Bs)).FKind)&&((x13.FType==(Z2.mk (9:Int) ([65]:Bs) ([120]:Bs) ([110]:Bs) ([73,110,116]:Bs) ([73,110,116,33]:Bs)).FType)&&((x13.FField==(Z2.mk (9:Int) ([65]:Bs) ([120]:Bs) ([110]:Bs) ([73,110,116]:Bs) ([73,110,116,33]:Bs)).FField)&&((x13.FArg==(Z2.mk (9:Int) ([65]:Bs) ([120]:Bs) ([110]:Bs) ([73,110,116]:Bs) ([73,110,116,33]:Bs)).FArg)&&((x13.FFrom==(Z2.mk (9:Int) ([65]:Bs) ([120]:Bs) ([110]:Bs) ([73,110,116]:Bs) ([73,110,116,33]:Bs)).FFrom)&&((x13.FTo==(Z2.mk (9:Int) ([65]:Bs) ([120]:Bs) ([110]:Bs) ([73,110,116]:Bs) ([73,110,116,33]:Bs)).FTo)&&true))))))&&(decide (x14.FKind=(4:Int))))&&(decide (x15.FKind=(Z2.mk (5:Int) ([65]:Bs) ([122]:Bs) ([]:Bs) ([]:Bs) ([73,110,116]:Bs)).FKind)&&((x15.FType==(Z2.mk (5:Int) ([65]:Bs) ([122]:Bs) ([]:Bs) ([]:Bs) ([73,110,116]:Bs)).FType)&&((x15.FField==(Z2.mk (5:Int) ([65]:Bs) ([122]:Bs) ([]:Bs) ([]:Bs) ([73,110,116]:Bs)).FField)&&((x15.FArg==(Z2.mk (5:Int) ([65]:Bs) ([122]:Bs) ([]:Bs) ([]:Bs) ([73,110,116]:Bs)).FArg)&&((x15.FFrom==(Z2.mk (5:Int) ([65]:Bs) ([122]:Bs) ([]:Bs) ([]:Bs) ([73,110,116]:Bs)).FFrom)&&((x15.FTo==(Z2.mk (5:Int) ([65]:Bs) ([122]:Bs) ([]:Bs) ([]:Bs) ([73,110,116]:Bs)).FTo)&&true)))))))&&((x17==([65,114,103,84,121,112,101,32,65,46,120,40,110,41,58,32,73,110,116,32,45,62,32,73,110,116,33]:Bs))))) (Z9 x18) false fun x19=>guardO ((((((decide (x13.FKind=(Z2.mk (9:Int) ([65]:Bs) ([120]:Bs) ([110]:Bs) ([73,110,116]:Bs) ([73,110,116,33]:Bs)).FKind)&&((x13.FType==(Z2.mk (9:Int) ([65]:Bs) ([120]:Bs) ([110]:Bs) ([73,110,116]:Bs) ([73,110,116,33]:Bs)).FType)&&((x13.FField==(Z2.mk (9:Int) ([65]:Bs) ([120]:Bs) ([110]:Bs) ([73,110,116]:Bs) ([73,110,116,33]:Bs)).FField)&&((x13.FArg==(Z2.mk (9:Int) ([65]:Bs) ([120]:Bs) ([110]:Bs) ([73,110,116]:Bs) ([73,110,116,33]:Bs)).FArg)&&((x13.FFrom==(Z2.mk (9:Int) ([65]:Bs) ([120]:Bs) ([110]:Bs) ([73,110,116]:Bs) ([73,110,116,33]:Bs)).FFrom)&&((x13.FTo==(Z2.mk (9:Int) ([65]:Bs) ([120]:Bs) ([110]:Bs) ([73,110,116]:Bs) ([73,110,116,33]:Bs)).FTo)&&true))))))&&(decide (x14.FKind=(4:Int))))&&(decide (x15.FKind=(Z2.mk (5:Int) ([65]:Bs) ([122]:Bs) ([]:Bs) ([]:Bs) ([73,110,116]:Bs)).FKind)&&((x15.FType==(Z2.mk (5:Int) ([65]:Bs) ([122]:Bs) ([]:Bs) ([]:Bs) ([73,110,116]:Bs)).FType)&&((x15.FField==(Z2.mk (5:Int) ([65]:Bs) ([122]:Bs) ([]:Bs) ([]:Bs) ([73,110,116]:Bs)).FField)&&((x15.FArg==(Z2.mk (5:Int) ([65]:Bs) ([122]:Bs) ([]:Bs) ([]:Bs) ([73,110,116]:Bs)).FArg)&&((x15.FFrom==(Z2.mk (5:Int) ([65]:Bs) ([122]:Bs) ([]:Bs) ([]:Bs) ([73,110,116]:Bs)).FFrom)&&((x15.FTo==(Z2.mk (5:Int) ([65]:Bs) ([122]:Bs) ([]:Bs) ([]:Bs) ([73,110,116]:Bs)).FTo)&&true)))))))&&((x17==([65,114,103,84,121,112,101,32,65,46,120,40,110,41,58,32,73,110,116,32,45,62,32,73,110,116,33]:Bs))))&&(!x19))) (x6.l[2]?) Z2.zero fun x20=>guardO ((((((decide (x13.FKind=(Z2.mk (9:Int) ([65]:Bs) ([120]:Bs) ([110]:Bs) ([73,110,116]:Bs) ([73,110,116,33]:Bs)).FKind)&&((x13.FType==(Z2.mk (9:Int) ([65]:Bs) ([120]:Bs) ([110]:Bs) ([73,110,116]:Bs) ([73,110,116,33]:Bs)).FType)&&((x13.FField==(Z2.mk (9:Int) ([65]:Bs) ([120]:Bs) ([110]:Bs) ([73,110,116]:Bs) ([73,110,116,33]:Bs)).FField)&&((x13.FArg==(Z2.mk (9:Int) ([65]:Bs) ([120]:Bs) ([110]:Bs) ([73,110,116]:Bs) ([73,110,116,33]:Bs)).FArg)&&((x13.FFrom==(Z2.mk (9:Int) ([65]:Bs) ([120]:Bs) ([110]:Bs) ([73,110,116]:Bs) ([73,110,116,33]:Bs)).FFrom)&&((x13.FTo==(Z2.mk (9:Int) ([65]:Bs) ([120]:Bs) ([110]:Bs) ([73,110,116]:Bs) ([73,110,116,33]:Bs)).FTo)&&true))))))&&(decide (x14.FKind=(4:Int))))&&(decide (x15.FKind=(Z2.mk (5:Int) ([65]:Bs) ([122]:Bs) ([]:Bs) ([]:Bs) ([73,110,116]:Bs)).FKind)&&((x15.FType==(Z2.mk (5:Int) ([65]:Bs) ([122]:Bs) ([]:Bs) ([]:Bs) ([73,110,116]:Bs)).FType)&&((x15.FField==(Z2.mk (5:Int) ([65]:Bs) ([122]:Bs) ([]:Bs) ([]:Bs) ([73,110,116]:Bs)).FField)&&((x15.FArg==(Z2.mk (5:Int) ([65]:Bs) ([122]:Bs) ([]:Bs) ([]:Bs) ([73,110,116]:Bs)).FArg)&&((x15.FFrom==(Z2.mk (5:Int) ([65]:Bs) ([122]:Bs) ([]:Bs) ([]:Bs) ([73,110,116]:Bs)).FFrom)&&((x15.FTo==(Z2.mk (5:Int) ([65]:Bs) ([122]:Bs) ([]:Bs) ([]:Bs) ([73,110,116]:Bs)).FTo)&&true)))))))&&((x17==([65,114,103,84,121,112,101,32,65,46,120,40,110,41,58,32,73,110,116,32,45,62,32,73,110,116,33]:Bs))))&&(!x19))) (Z9 x20) false fun x21=>some ((((((decide (x13.FKind=(Z2.mk (9:Int) ([65]:Bs) ([120]:Bs) ([110]:Bs) ([73,110,116]:Bs) ([73,110,116,33]:Bs)).FKind)&&((x13.FType==(Z2.mk (9:Int) ([65]:Bs) ([120]:Bs) ([110]:Bs) ([73,110,116]:Bs) ([73,110,116,33]:Bs)).FType)&&((x13.FField==(Z2.mk (9:Int) ([65]:Bs) ([120]:Bs) ([110]:Bs) ([73,110,116]:Bs) ([73,110,116,33]:Bs)).FField)&&((x13.FArg==(Z2.mk (9:Int) ([65]:Bs) ([120]:Bs) ([110]:Bs) ([73,110,116]:Bs) ([73,110,116,33]:Bs)).FArg)&&((x13.FFrom==(Z2.mk (9:Int) ([65]:Bs) ([120]:Bs) ([110]:Bs) ([73,110,116]:Bs) ([73,110,116,33]:Bs)).FFrom)&&((x13.FTo==(Z2.mk (9:Int) ([65]:Bs) ([120]:Bs) ([110]:Bs) ([73,110,116]:Bs) ([73,110,116,33]:Bs)).FTo)&&true))))))&&(decide (x14.FKind=(4:Int))))&&(decide (x15.FKind=(Z2.mk (5:Int) ([65]:Bs) ([122]:Bs) ([]:Bs) ([]:Bs) ([73,110,116]:Bs)).FKind)&&((x15.FType==(Z2.mk (5:Int) ([65]:Bs) ([122]:Bs) ([]:Bs) ([]:Bs) ([73,110,116]:Bs)).FType)&&((x15.FField==(Z2.mk (5:Int) ([65]:Bs) ([122]:Bs) ([]:Bs) ([]:Bs) ([73,110,116]:Bs)).FField)&&((x15.FArg==(Z2.mk (5:Int) ([65]:Bs) ([122]:Bs) ([]:Bs) ([]:Bs) ([73,110,116]:Bs)).FArg)&&((x15.FFrom==(Z2.mk (5:Int) ([65]:Bs) ([122]:Bs) ([]:Bs) ([]:Bs) ([73,110,116]:Bs)).FFrom)&&((x15.FTo==(Z2.mk (5:Int) ([65]:Bs) ([122]:Bs) ([]:Bs) ([]:Bs) ([73,110,116]:Bs)).FTo)&&true)))))))&&((x17==([65,114,103,84,121,112,101,32,65,46,120,40,110,41,58,32,73,110,116,32,45,62,32,73,110,116,33]:Bs))))&&(!x19))&&x21))
theorem Z31_walk  {oT oM:Ab.Obj}{gT gM:Nat}{r:Bool}(hE:Z31 =some r) (H:Heap) (hgT:H gT=some oT) (hoT:IsTab Tryz.prog oT) (hgM:H gM=some oM) (hoM:IsMax Tryz.prog oM):ACalls Tryz.prog 5 [] H fun v h'=>v=.a (.d (.bool r))/\h'=H:=by
 unfold Z31 at hE;refine ACalls.oW 52 [.tmp 0] Tryz.call5 Tryz.func5 ?_;refine seqR (S As (nil ?_));refine seqR (S BV (S BU ?_));refine Sl ?_;refine Sf ?_;refine nil ?_;refine freezeA 1 _ rfl Keeps.nil ?_;refine AWp.seqD (Sd BU ?_);obtain⟨x4,gx4,hE⟩:=bO hE;refine Scd rfl rfl (Z36_walk gx4) ?_;refine Sd Ld ?_;obtain⟨x5,gx5,hE⟩:=bO hE;refine Scd rfl rfl (Z36_walk gx5) ?_;obtain⟨x6,gx6,hE⟩:=bO hE;refine DOps.s0 (callR rfl rfl (Z10_walk (gT:=gT) (oT:=oT) gx6 _ hpG (by assumption))) rfl ?_
 refine Sd As ?_;refine DOps.nil (by decide +kernel) ?_;refine seqK fun K7 hK7=>?_;refine seqR (S Mv ?_);refine sLen (f:=Z2.c) (s:=x6) (TK rfl) rfl rfl rfl rfl fun hL9=>?_;refine S BI (nil ?_);refine cE hE (fun hc10 hE=>?_) (fun hc10 hE=>?_)
 ·refine seqR (S As (nil ?_));exact rt hE
 refine sk hK7 ?_;clear hK7 K7;refine seqR (S Mv ?_);obtain⟨x13,gx13,hE⟩:=bO hE;refine S (ix Z2.c 0 gx13) (S Ld (S BU ?_));refine s0 (eqStruct eqt_31 rfl rfl rfl rfl) rfl ?_;refine S Mv (G0 Mv ?_);obtain⟨x14,gx14,hE⟩:=gO hE;refine gC rfl rfl (fun hC=>ungdA (k:=19) rfl (idxMn (f:=Z2.c) (n:=1) (TK rfl) rfl (TK rfl) rfl rfl rfl (gx14 hC))) rfl ?_;refine G1 20 rfl Fv ?_;refine G1 21 rfl Ld ?_;refine G1 22 rfl BI ?_
 refine S PA (S Mv (G0 Mv ?_));obtain⟨x15,gx15,hE⟩:=gO hE;refine gC rfl rfl (fun hC=>ungdA (k:=26) rfl (idxMn (f:=Z2.c) (n:=2) (TK rfl) rfl (TK rfl) rfl rfl rfl (gx15 hC))) rfl ?_;refine G1 27 rfl Ld ?_;refine G0 BU ?_;refine gC rfl rfl (fun hC=>ungdA (k:=28) rfl (ungdA (k:=29) rfl (eqStruct eqt_31 rfl rfl rfl rfl))) rfl ?_;refine S PA (S Mv (G0 Mv ?_));obtain⟨x16,gx16,hE⟩:=gO hE;refine gC rfl rfl (fun hC=>ungdA (k:=33) rfl (idxMn (f:=Z2.c) (n:=0) (TK rfl) rfl (TK rfl) rfl rfl rfl (gx16 hC))) rfl ?_
 refine G1 34 rfl Ld ?_;obtain⟨x17,gx17,hE⟩:=gO hE;refine gC rfl rfl (fun hC=>ungdA (k:=35) rfl (callR rfl rfl (Z11_walk (gT:=gT) (oT:=oT) (gx17 hC) _ hpG (by assumption)))) rfl ?_;refine G1 36 rfl BS ?_;refine S PA (S Mv (G0 Mv ?_));obtain⟨x18,gx18,hE⟩:=gO hE;refine gC rfl rfl (fun hC=>ungdA (k:=40) rfl (idxMn (f:=Z2.c) (n:=0) (TK rfl) rfl (TK rfl) rfl rfl rfl (gx18 hC))) rfl ?_;refine G1 41 rfl Ld ?_
 obtain⟨x19,gx19,hE⟩:=gO hE;refine gC rfl rfl (fun hC=>ungdA (k:=42) rfl (callR rfl rfl (Z9_walk (gM:=gM) (oM:=oM) (gx19 hC) _ hpG (by assumption)))) rfl ?_;refine G1 43 rfl NB ?_;refine S PA (S Mv (G0 Mv ?_));obtain⟨x20,gx20,hE⟩:=gO hE;refine gC rfl rfl (fun hC=>ungdA (k:=47) rfl (idxMn (f:=Z2.c) (n:=2) (TK rfl) rfl (TK rfl) rfl rfl rfl (gx20 hC))) rfl ?_;refine G1 48 rfl Ld ?_;obtain⟨x21,gx21,hE⟩:=gO hE
 refine gC rfl rfl (fun hC=>ungdA (k:=49) rfl (callR rfl rfl (Z9_walk (gM:=gM) (oM:=oM) (gx21 hC) _ hpG (by assumption)))) rfl ?_;refine S PA (S As (nil ?_));exact rt hE
end
def Z33_j2  :Option Bool:=some true
def Z33_l5 (a0:(Sl Z5)) (a1:(Sl Z5)) :Nat->Nat->Option Bool
 | 0,_=>none
 | n5+1,s5_6=>bif (decide (((s5_6:Nat):Int)<((a0.l.length:Nat):Int))) then((a0.l[s5_6]?).bind fun x13=>(Z99 a1 x13.FName).bind fun x14=>bif (!x14.2) then(some false) else((Z33_l5 a0 a1 n5) (s5_6+1))) else(Z33_j2   )
def Z33 (a0:(Sl Z5)) (a1:(Sl Z5)):Option Bool:=Z33_l5 a0 a1 (a0.l.length+1) 0
theorem Z33_walk {a0 a1:Sl Z5}{w0 w1:Option Nat}{r:Bool}(hE:Z33 a0 a1=some r) (H:Heap) :ACalls Tryz.prog 25 [.d (Sl.d 10 Z5.c w0 a0),.d (Sl.d 10 Z5.c w1 a1)] H fun v h'=>v=.a (.d (.bool r))/\h'=H:=by
 unfold Z33 at hE;refine ACalls.oW 26 [.tmp 4] Tryz.call25 Tryz.func25 ?_;refine seqR (S As (nil ?_));refine seqJH KeepsT.nil (fun(z:Unit)=>[]) (fun z=>H) (fun z=>Z33_j2 =some r) ?_ ?_
 ·intro K2 hK2;refine seqR (S As (nil ?_));refine block ?_;refine loopH (TA 0 (TA 1 KeepsT.nil)) (fun(z:Nat×Nat)=>[(5,.a (.d (.int .i64 ((z.2:Nat):Int))))]) (fun z=>H) (fun z=>z.1) (fun z=>Z33_l5 a0 a1 z.1 z.2=some r) ((a0.l.length+1),0) hE Weak.toA ?_;rintro ⟨n5,s5_6⟩ hE K5 hK5;try dsimp only at hE
  cases n5 with
  | zero=>cases hE
  | succ n5 =>
    rw [Z33_l5] at hE;refine seqK fun K7 hK7=>?_;refine seqR (S Mv (S Mv ?_));refine sLen (f:=Z5.c) (s:=a0) (TK rfl) rfl rfl rfl rfl fun hL9=>?_;refine S BI (nil ?_);refine cE hE (fun hc10 hE=>?_) (fun hc10 hE=>?_)
    ·try dsimp only at hc10
     have hf10:=of_decide_eq_true hc10;refine sk hK7 ?_;clear hK7 K7;refine seqK fun K11 hK11=>?_;refine block ?_;refine seqR (S Mv (S Mv (S Mv ?_)));obtain⟨x13,gx13,hE⟩:=bO hE;refine S (ix Z5.c s5_6 gx13) (S Fv (S Ld ?_));obtain⟨x14,gx14,hE⟩:=bO hE;refine Sc rfl rfl (Z99_walk gx14) ?_;refine S Mv (S EX (S EX ?_));refine Sl ?_;refine Sf ?_;refine S As (nil ?_);refine freezeA 6 _ rfl (KA 0 (KA 1 (KA 5 (KA 7 Keeps.nil)))) ?_
     refine seqR (S Mv (S NB (nil ?_)));refine cE hE (fun hc16 hE=>?_) (fun hc16 hE=>?_)
     ·refine seqR (S As (nil ?_));exact rt hE
     refine sk hK11 ?_;clear hK11 K11;refine region ?_;refine S Mv ?_;refine SI ?_;refine S As (nil ?_);exact hK5 _ (n5,(s5_6+1)) Weak.toA hE (Nat.lt_succ_self _)
    refine AWp.exit ?_;exact hK2 _ () Weak.toA hE
 rintro _ hE;try dsimp only at hE
 unfold Z33_j2 at hE;refine seqR (S As (nil ?_));exact rt hE
def Z35_j2  :Option Bool:=some false
def Z35_l5 (a0:(Sl Bs)) (a1:Bs) :Nat->Nat->Option Bool
 | 0,_=>none
 | n5+1,s5_6=>bif (decide (((s5_6:Nat):Int)<((a0.l.length:Nat):Int))) then((a0.l[s5_6]?).bind fun x13=>bif ((x13==a1)) then(some true) else((Z35_l5 a0 a1 n5) (s5_6+1))) else(Z35_j2   )
def Z35 (a0:(Sl Bs)) (a1:Bs):Option Bool:=Z35_l5 a0 a1 (a0.l.length+1) 0
theorem Z35_walk {a0:Sl Bs}{a1:Bs}{w0:Option Nat}{r:Bool}(hE:Z35 a0 a1=some r) (H:Heap) :ACalls Tryz.prog 26 [.d (Sl.d 1 strE w0 a0),.d (.str a1)] H fun v h'=>v=.a (.d (.bool r))/\h'=H:=by
 unfold Z35 at hE;refine ACalls.oW 18 [.tmp 4] Tryz.call26 Tryz.func26 ?_;refine seqR (S As (nil ?_));refine seqJH KeepsT.nil (fun(z:Unit)=>[]) (fun z=>H) (fun z=>Z35_j2 =some r) ?_ ?_
 ·intro K2 hK2;refine seqR (S As (nil ?_));refine block ?_;refine loopH (TA 0 (TA 1 KeepsT.nil)) (fun(z:Nat×Nat)=>[(5,.a (.d (.int .i64 ((z.2:Nat):Int))))]) (fun z=>H) (fun z=>z.1) (fun z=>Z35_l5 a0 a1 z.1 z.2=some r) ((a0.l.length+1),0) hE Weak.toA ?_;rintro ⟨n5,s5_6⟩ hE K5 hK5;try dsimp only at hE
  cases n5 with
  | zero=>cases hE
  | succ n5 =>
    rw [Z35_l5] at hE;refine seqK fun K7 hK7=>?_;refine seqR (S Mv (S Mv ?_));refine sLen (f:=strE) (s:=a0) (TK rfl) rfl rfl rfl rfl fun hL9=>?_;refine S BI (nil ?_);refine cE hE (fun hc10 hE=>?_) (fun hc10 hE=>?_)
    ·try dsimp only at hc10
     have hf10:=of_decide_eq_true hc10;refine sk hK7 ?_;clear hK7 K7;refine seqK fun K11 hK11=>?_;refine block ?_;refine seqR (S Mv (S Mv ?_));obtain⟨x13,gx13,hE⟩:=bO hE;refine S (ix strE s5_6 gx13) (S Ld (S Mv (S BS (nil ?_))));refine cE hE (fun hc14 hE=>?_) (fun hc14 hE=>?_)
     ·refine seqR (S As (nil ?_));exact rt hE
     refine sk hK11 ?_;clear hK11 K11;refine region ?_;refine S Mv ?_;refine SI ?_;refine S As (nil ?_);exact hK5 _ (n5,(s5_6+1)) Weak.toA hE (Nat.lt_succ_self _)
    refine AWp.exit ?_;exact hK2 _ () Weak.toA hE
 rintro _ hE;try dsimp only at hE
 unfold Z35_j2 at hE;refine seqR (S As (nil ?_));exact rt hE
def Z34_j4 (a0:TDef) (a1:TDef)  :Option Bool:=guardO ((decide (a0.FKind=a1.FKind))) (Z33 a0.FInputs a1.FInputs) false fun x6=>some ((decide (a0.FKind=a1.FKind))&&x6)
def Z34_l8 (a0:TDef) (a1:TDef) :Nat->Nat->Option Bool
 | 0,_=>none
 | n8+1,s11_9=>bif (decide (((s11_9:Nat):Int)<((a0.FImplements.l.length:Nat):Int))) then((a0.FImplements.l[s11_9]?).bind fun x16=>(Z35 a1.FImplements x16).bind fun x17=>bif (!x17) then(some false) else((Z34_l8 a0 a1 n8) (s11_9+1))) else(Z34_j4 a0 a1  )
def Z34_j3 (a0:TDef) (a1:TDef)  :Option Bool:=Z34_l8 a0 a1 (a0.FImplements.l.length+1) 0
def Z34_j27 (s8_22:Nat) (k_next_21:Nat->Option Bool) :Option Bool:=k_next_21 (s8_22+1)
def Z34_j29 (s8_22:Nat) (k_next_21:Nat->Option Bool) (s9_30:Bool):Option Bool:=bif (!s9_30) then(some false) else(Z34_j27 s8_22 k_next_21 )
def Z34_l35 (a0:TDef) (a1:TDef) (s8_22:Nat) (k_next_21:Nat->Option Bool):Nat->Bool->Nat->Option Bool
 | 0,_,_=>none
 | n35+1,s9_36,s10_37=>bif (decide (((s10_37:Nat):Int)<((a1.FMembers.l.length:Nat):Int))) then(guardO (!s9_36) (a1.FMembers.l[s10_37]?) Z6.zero fun x43=>guardO (!s9_36) (a0.FMembers.l[s8_22]?) Z6.zero fun x44=>(Z34_l35 a0 a1 s8_22 k_next_21 n35) (s9_36||((x43.FName==x44.FName))) (s10_37+1)) else(Z34_j29 s8_22 k_next_21 s9_36)
def Z34_l21 (a0:TDef) (a1:TDef) :Nat->Nat->Option Bool
 | 0,_=>none
 | n21+1,s8_22=>bif (decide (((s8_22:Nat):Int)<((a0.FMembers.l.length:Nat):Int))) then(Z34_l35 a0 a1 s8_22 ((Z34_l21 a0 a1 n21)) (a1.FMembers.l.length+1) false 0) else(Z34_j3 a0 a1  )
def Z34_j2 (a0:TDef) (a1:TDef)  :Option Bool:=Z34_l21 a0 a1 (a0.FMembers.l.length+1) 0
def Z34_l46 (a0:TDef) (a1:TDef) :Nat->Nat->Option Bool
 | 0,_=>none
 | n46+1,s5_47=>bif (decide (((s5_47:Nat):Int)<((a0.FFields.l.length:Nat):Int))) then((a0.FFields.l[s5_47]?).bind fun x54=>(Z97 a1 x54.FName).bind fun x55=>guardO (!(!x55.2)) (a0.FFields.l[s5_47]?) Z4.zero fun x57=>guardO (!(!x55.2)) (Z53 x55.1.FType x57.FType) false fun x58=>guardO (!((!x55.2)||(!x58))) (a0.FFields.l[s5_47]?) Z4.zero fun x59=>guardO (!((!x55.2)||(!x58))) (Z33 x59.FArgs x55.1.FArgs) false fun x60=>bif (((!x55.2)||(!x58))||(!x60)) then(some false) else((Z34_l46 a0 a1 n46) (s5_47+1))) else(Z34_j2 a0 a1  )
def Z34 (a0:TDef) (a1:TDef):Option Bool:=Z34_l46 a0 a1 (a0.FFields.l.length+1) 0
theorem Z34_walk {a0 a1:TDef}{r:Bool}(hE:Z34 a0 a1=some r) (H:Heap) :ACalls Tryz.prog 9 [.agg (TDef.c a0),.agg (TDef.c a1)] H fun v h'=>v=.a (.d (.bool r))/\h'=H:=by
 unfold Z34 at hE;refine ACalls.oW 116 [.tmp 4] Tryz.call9 Tryz.func9 ?_;refine seqR (S BX (S BX (S As (nil ?_))));refine seqJH (TA 2 (TA 3 KeepsT.nil)) (fun(z:Unit)=>[]) (fun z=>H) (fun z=>Z34_j2 a0 a1 =some r) ?_ ?_
 ·intro K2 hK2;refine seqR (S As (nil ?_));refine block ?_;refine loopH (TA 2 (TA 3 KeepsT.nil)) (fun(z:Nat×Nat)=>[(5,.a (.d (.int .i64 ((z.2:Nat):Int))))]) (fun z=>H) (fun z=>z.1) (fun z=>Z34_l46 a0 a1 z.1 z.2=some r) ((a0.FFields.l.length+1),0) hE Weak.toA ?_;rintro ⟨n46,s5_47⟩ hE K46 hK46;try dsimp only at hE
  cases n46 with
  | zero=>cases hE
  | succ n46 =>
    rw [Z34_l46] at hE;refine seqK fun K48 hK48=>?_;refine seqR (S Mv (S Fv (S Ld ?_)));refine sLen (f:=Z4.c) (s:=a0.FFields) (TK rfl) rfl rfl rfl rfl fun hL50=>?_;refine S BI (nil ?_);refine cE hE (fun hc51 hE=>?_) (fun hc51 hE=>?_)
    ·try dsimp only at hc51
     have hf51:=of_decide_eq_true hc51;refine sk hK48 ?_;clear hK48 K48;refine seqK fun K52 hK52=>?_;refine block ?_;refine AWp.seqD (Sd Ld (Sd Fv (Sd Ld (Sd Mv ?_))));obtain⟨x54,gx54,hE⟩:=bO hE;refine Sd (ix Z4.c s5_47 gx54) (Sd Fv (Sd Ld ?_));obtain⟨x55,gx55,hE⟩:=bO hE;refine Scd rfl rfl (Z97_walk gx55) ?_;refine Sd Mv (Sd EX (Sd EX ?_));refine DOps.sB (TK rfl) rfl rfl ?_ (by repeat (first|exact Snoc.nil|apply Snoc.cons))
     refine DOps.sLn (storeLFA (TK rfl) rfl rfl rfl rfl rfl) ?_;refine Sd As ?_;refine DOps.nil (by decide +kernel) ?_;refine freezeA 6 _ rfl (KA 2 (KA 3 (KA 5 (KA 7 Keeps.nil)))) ?_;refine AWp.seqD (Sd Mv (Sd NB (Sd Mv (G0d Fv ?_))));refine G1d 33 rfl Ld ?_;refine G0d Fv ?_;refine G1d 35 rfl Ld ?_;refine G0d Mv ?_;obtain⟨x57,gx57,hE⟩:=gO hE;refine DOps.gC rfl rfl (fun hC=>ungdA (k:=36) rfl (ungdA (k:=37) rfl (idxMn (f:=Z4.c) (n:=s5_47) (TK rfl) rfl (TK rfl) rfl rfl rfl (gx57 hC)))) rfl ?_
     refine G1d 38 rfl Fv ?_;refine G1d 39 rfl Ld ?_;obtain⟨x58,gx58,hE⟩:=gO hE;refine Gc2d 34 40 rfl rfl rfl rfl rfl rfl (fun hC=>Z53_walk (gx58 hC)) ?_;refine G1d 41 rfl NB ?_;refine Sd PO (Sd Mv (G0d Fv ?_));refine G1d 45 rfl Ld ?_;refine G0d Mv ?_;obtain⟨x59,gx59,hE⟩:=gO hE;refine DOps.gC rfl rfl (fun hC=>ungdA (k:=46) rfl (ungdA (k:=47) rfl (idxMn (f:=Z4.c) (n:=s5_47) (TK rfl) rfl (TK rfl) rfl rfl rfl (gx59 hC)))) rfl ?_
     refine G1d 48 rfl Fv ?_;refine G1d 49 rfl Ld ?_;refine G0d Fv ?_;refine G1d 51 rfl Ld ?_;obtain⟨x60,gx60,hE⟩:=gO hE;refine Gc2d 50 52 rfl rfl rfl rfl rfl rfl (fun hC=>Z33_walk (gx60 hC)) ?_;refine G1d 53 rfl NB ?_;refine Sd PO ?_;refine DOps.nil (by decide +kernel) ?_;refine cE hE (fun hc61 hE=>?_) (fun hc61 hE=>?_)
     ·refine seqR (S As (nil ?_));exact rt hE
     refine sk hK52 ?_;clear hK52 K52;refine region ?_;refine S Mv ?_;refine SI ?_;refine S As (nil ?_);exact hK46 _ (n46,(s5_47+1)) Weak.toA hE (Nat.lt_succ_self _)
    refine AWp.exit ?_;exact hK2 _ () Weak.toA hE
 rintro _ hE;try dsimp only at hE
 unfold Z34_j2 at hE;refine seqJH (TA 2 (TA 3 KeepsT.nil)) (fun(z:Unit)=>[]) (fun z=>H) (fun z=>Z34_j3 a0 a1 =some r) ?_ ?_
 ·intro K3 hK3;refine seqR (S As (nil ?_));refine block ?_;refine loopH (TA 2 (TA 3 KeepsT.nil)) (fun(z:Nat×Nat)=>[(8,.a (.d (.int .i64 ((z.2:Nat):Int))))]) (fun z=>H) (fun z=>z.1) (fun z=>Z34_l21 a0 a1 z.1 z.2=some r) ((a0.FMembers.l.length+1),0) hE Weak.toA ?_;rintro ⟨n21,s8_22⟩ hE K21 hK21;try dsimp only at hE
  cases n21 with
  | zero=>cases hE
  | succ n21 =>
    rw [Z34_l21] at hE;refine seqK fun K23 hK23=>?_;refine seqR (S Mv (S Fv (S Ld ?_)));refine sLen (f:=Z6.c) (s:=a0.FMembers) (TK rfl) rfl rfl rfl rfl fun hL25=>?_;refine S BI (nil ?_);refine cE hE (fun hc26 hE=>?_) (fun hc26 hE=>?_)
    ·try dsimp only at hc26
     have hf26:=of_decide_eq_true hc26;refine sk hK23 ?_;clear hK23 K23;refine seqJH (TA 2 (TA 3 (TA 8 KeepsT.nil))) (fun(z:Unit)=>[]) (fun z=>H) (fun z=>Z34_j27 s8_22 ((Z34_l21 a0 a1 n21)) =some r) ?_ ?_
     ·intro K27 hK27;refine block ?_;refine seqR (S As (nil ?_));refine seqJH (TA 2 (TA 3 (TA 8 KeepsT.nil))) (fun(z:Bool)=>[(9,.a (.d (.bool z)))]) (fun z=>H) (fun z=>Z34_j29 s8_22 ((Z34_l21 a0 a1 n21)) z=some r) ?_ ?_
      ·intro K29 hK29;refine seqR (S As (nil ?_));refine block ?_;refine loopH (TA 2 (TA 3 (TA 8 KeepsT.nil))) (fun(z:Nat×Bool×Nat)=>[(9,.a (.d (.bool z.2.1))),(10,.a (.d (.int .i64 ((z.2.2:Nat):Int))))]) (fun z=>H) (fun z=>z.1) (fun z=>Z34_l35 a0 a1 s8_22 ((Z34_l21 a0 a1 n21)) z.1 z.2.1 z.2.2=some r) ((a1.FMembers.l.length+1),false,0) hE Weak.toA ?_;rintro ⟨n35,s9_36,s10_37⟩ hE K35 hK35;try dsimp only at hE
       cases n35 with
       | zero=>cases hE
       | succ n35 =>
         rw [Z34_l35] at hE;refine seqK fun K38 hK38=>?_;refine seqR (S Mv (S Fv (S Ld ?_)));refine sLen (f:=Z6.c) (s:=a1.FMembers) (TK rfl) rfl rfl rfl rfl fun hL40=>?_;refine S BI (nil ?_);refine cE hE (fun hc41 hE=>?_) (fun hc41 hE=>?_)
         ·try dsimp only at hc41
          have hf41:=of_decide_eq_true hc41;refine sk hK38 ?_;clear hK38 K38;refine seqK fun K42 hK42=>?_;refine block ?_;refine AWp.draw rfl ?_;refine Sd Mv (Sd Mv (G0d Fv ?_));refine G1d 72 rfl Ld ?_;refine G0d Mv ?_;obtain⟨x43,gx43,hE⟩:=gO hE;refine DOps.gC rfl rfl (fun hC=>ungdA (k:=73) rfl (ungdA (k:=74) rfl (idxMn (f:=Z6.c) (n:=s10_37) (TK rfl) rfl (TK rfl) rfl rfl rfl (gx43 hC)))) rfl ?_;refine G1d 75 rfl Fv ?_
          refine G1d 76 rfl Ld ?_;refine G0d Fv ?_;refine G1d 78 rfl Ld ?_;refine G0d Mv ?_;obtain⟨x44,gx44,hE⟩:=gO hE;refine DOps.gC rfl rfl (fun hC=>ungdA (k:=79) rfl (ungdA (k:=80) rfl (idxMn (f:=Z6.c) (n:=s8_22) (TK rfl) rfl (TK rfl) rfl rfl rfl (gx44 hC)))) rfl ?_;refine G1d 81 rfl Fv ?_;refine G1d 82 rfl Ld ?_;refine G2d 77 83 rfl rfl BS ?_;refine Sd PO (Sd As ?_);refine DOps.nil (by decide +kernel) ?_
          refine hK42 _ ?_;clear hK42 K42;refine region ?_;refine S Mv ?_;refine SI ?_;refine S As (nil ?_);exact hK35 _ (n35,(s9_36||((x43.FName==x44.FName))),(s10_37+1)) Weak.toA hE (Nat.lt_succ_self _)
         refine AWp.exit ?_;exact hK29 _ s9_36 Weak.toA hE
      rintro s9_30 hE;try dsimp only at hE
      unfold Z34_j29 at hE;refine seqR (S Mv (S NB (nil ?_)));refine cE hE (fun hc32 hE=>?_) (fun hc32 hE=>?_)
      ·refine seqR (S As (nil ?_));exact rt hE
      refine AWp.skip ?_;exact hK27 _ () Weak.toA hE
     rintro _ hE;try dsimp only at hE
     unfold Z34_j27 at hE;refine region ?_;refine S Mv ?_;refine SI ?_;refine S As (nil ?_);exact hK21 _ (n21,(s8_22+1)) Weak.toA hE (Nat.lt_succ_self _)
    refine AWp.exit ?_;exact hK3 _ () Weak.toA hE
 rintro _ hE;try dsimp only at hE
 unfold Z34_j3 at hE;refine seqJH (TA 2 (TA 3 KeepsT.nil)) (fun(z:Unit)=>[]) (fun z=>H) (fun z=>Z34_j4 a0 a1 =some r) ?_ ?_
 ·intro K4 hK4;refine seqR (S As (nil ?_));refine block ?_;refine loopH (TA 2 (TA 3 KeepsT.nil)) (fun(z:Nat×Nat)=>[(11,.a (.d (.int .i64 ((z.2:Nat):Int))))]) (fun z=>H) (fun z=>z.1) (fun z=>Z34_l8 a0 a1 z.1 z.2=some r) ((a0.FImplements.l.length+1),0) hE Weak.toA ?_;rintro ⟨n8,s11_9⟩ hE K8 hK8;try dsimp only at hE
  cases n8 with
  | zero=>cases hE
  | succ n8 =>
    rw [Z34_l8] at hE;refine seqK fun K10 hK10=>?_;refine seqR (S Mv (S Fv (S Ld ?_)));refine sLen (f:=strE) (s:=a0.FImplements) (TK rfl) rfl rfl rfl rfl fun hL12=>?_;refine S BI (nil ?_);refine cE hE (fun hc13 hE=>?_) (fun hc13 hE=>?_)
    ·try dsimp only at hc13
     have hf13:=of_decide_eq_true hc13;refine sk hK10 ?_;clear hK10 K10;refine seqK fun K14 hK14=>?_;refine block ?_;refine AWp.seqD (Sd Fv (Sd Ld (Sd Fv (Sd Ld (Sd Mv ?_)))));obtain⟨x16,gx16,hE⟩:=bO hE;refine Sd (ix strE s11_9 gx16) (Sd Ld ?_);obtain⟨x17,gx17,hE⟩:=bO hE;refine Scd rfl rfl (Z35_walk gx17) ?_;refine Sd NB ?_;refine DOps.nil (by decide +kernel) ?_;refine cE hE (fun hc18 hE=>?_) (fun hc18 hE=>?_)
     ·refine seqR (S As (nil ?_));exact rt hE
     refine sk hK14 ?_;clear hK14 K14;refine region ?_;refine S Mv ?_;refine SI ?_;refine S As (nil ?_);exact hK8 _ (n8,(s11_9+1)) Weak.toA hE (Nat.lt_succ_self _)
    refine AWp.exit ?_;exact hK4 _ () Weak.toA hE
 rintro _ hE;try dsimp only at hE
 unfold Z34_j4 at hE;refine seqR (S Fv (S Ld (S Fv (S Ld (S BI (S Mv (G0 Fv ?_)))))));refine G1 110 rfl Ld ?_;refine G0 Fv ?_;refine G1 112 rfl Ld ?_;obtain⟨x6,gx6,hE⟩:=gO hE;refine Gc2 111 113 rfl rfl rfl rfl rfl rfl (fun hC=>Z33_walk (gx6 hC)) ?_;refine S PA (S As (nil ?_));exact rt hE
end Go.Proofs

namespace Go.Proofs
open Go Go.Ab
open AOps Cert AWp Keeps KeepsT
variable {lou:Lou}
section
variable [IsLoud lou]
def Z30_j12  :Option Bool:=(Z31 ).bind fun x14=>some x14
def Z30_l16 (a0:TDoc) (a1:TDoc) :Nat->Nat->Option Bool
 | 0,_=>none
 | n16+1,s7_17=>bif (decide (((s7_17:Nat):Int)<((a0.FDefs.l.length:Nat):Int))) then((a0.FDefs.l[s7_17]?).bind fun x24=>(Z98 a1 x24.FName).bind fun x25=>guardO (!(!x25.2)) (a0.FDefs.l[s7_17]?) TDef.zero fun x27=>guardO (!(!x25.2)) (Z34 x27 x25.1) false fun x28=>bif ((!x25.2)||(!x28)) then(some false) else((Z30_l16 a0 a1 n16) (s7_17+1))) else(Z30_j12   )
def Z30_j11 (a0:TDoc) (a1:TDoc)  :Option Bool:=Z30_l16 a0 a1 (a0.FDefs.l.length+1) 0
def Z30_l32 (a0:TDoc) (a1:TDoc) (x10:(Sl Z2)) :Nat->Nat->Option Bool
 | 0,_=>none
 | n32+1,s6_33=>bif (decide (((s6_33:Nat):Int)<((x10.l.length:Nat):Int))) then((x10.l[s6_33]?).bind fun x40=>(Z9 x40).bind fun x41=>bif (!x41) then((Z31 ).bind fun x44=>some x44) else((Z30_l32 a0 a1 x10 n32) (s6_33+1))) else(Z30_j11 a0 a1  )
def Z30 (a0:TDoc) (a1:TDoc):Option Bool:=(Z32 a0).bind fun x4=>guardO (!(!x4)) (Z32 a1) false fun x5=>bif ((!x4)||(!x5)) then((Z31 ).bind fun x8=>some x8) else((Z10 a0 a1).bind fun x10=>Z30_l32 a0 a1 x10 (x10.l.length+1) 0)
theorem Z30_walk {a0 a1:TDoc}{oT oM:Ab.Obj}{gT gM:Nat}{r:Bool}(hE:Z30 a0 a1=some r) (H:Heap) (hgT:H gT=some oT) (hoT:IsTab Tryz.prog oT) (hgM:H gM=some oM) (hoM:IsMax Tryz.prog oM):ACalls Tryz.prog 3 [.agg (TDoc.c a0),.agg (TDoc.c a1)] H fun v h'=>v=.a (.d (.bool r))/\h'=H:=by
 unfold Z30 at hE;refine ACalls.oW 66 [.tmp 4] Tryz.call3 Tryz.func3 ?_;refine seqR (S BX (S BX (S As (nil ?_))));refine seqK fun K2 hK2=>?_;refine seqR (S Ld ?_);obtain⟨x4,gx4,hE⟩:=bO hE;refine Sc rfl rfl (Z32_walk gx4) ?_;refine S NB (S Mv (G0 Ld ?_));obtain⟨x5,gx5,hE⟩:=gO hE;refine Gc1 14 rfl rfl rfl rfl rfl (fun hC=>Z32_walk (gx5 hC)) ?_;refine G1 15 rfl NB ?_;refine S PO (nil ?_);refine cE hE (fun hc6 hE=>?_) (fun hc6 hE=>?_)
 ·refine seqR ?_;obtain⟨x8,gx8,hE⟩:=bO hE;refine s0 (callR rfl rfl (Z31_walk (gT:=gT) (oT:=oT) (gM:=gM) (oM:=oM) gx8 _ hpG (by assumption) hpG (by assumption))) rfl ?_;refine S As (nil ?_);exact rt hE
 refine sk hK2 ?_;clear hK2 K2;refine seqR (S Ld (S Ld ?_));obtain⟨x10,gx10,hE⟩:=bO hE;refine s0 (callR rfl rfl (Z10_walk (gT:=gT) (oT:=oT) gx10 _ hpG (by assumption))) rfl ?_;refine S As (nil ?_);refine seqJH (TA 2 (TA 3 KeepsT.nil)) (fun(z:Unit)=>[]) (fun z=>H) (fun z=>Z30_j11 a0 a1 =some r) ?_ ?_
 ·intro K11 hK11;refine seqR (S As (nil ?_));refine block ?_;refine loopH (TA 2 (TA 3 (TA 5 KeepsT.nil))) (fun(z:Nat×Nat)=>[(6,.a (.d (.int .i64 ((z.2:Nat):Int))))]) (fun z=>H) (fun z=>z.1) (fun z=>Z30_l32 a0 a1 x10 z.1 z.2=some r) ((x10.l.length+1),0) hE Weak.toA ?_;rintro ⟨n32,s6_33⟩ hE K32 hK32;try dsimp only at hE
  cases n32 with
  | zero=>cases hE
  | succ n32 =>
    rw [Z30_l32] at hE;refine seqK fun K34 hK34=>?_;refine seqR (S Mv (S Mv ?_));refine sLen (f:=Z2.c) (s:=x10) (TK rfl) rfl rfl rfl rfl fun hL36=>?_;refine S BI (nil ?_);refine cE hE (fun hc37 hE=>?_) (fun hc37 hE=>?_)
    ·try dsimp only at hc37
     have hf37:=of_decide_eq_true hc37;refine sk hK34 ?_;clear hK34 K34;refine seqK fun K38 hK38=>?_;refine block ?_;refine seqR (S Mv (S Mv ?_));obtain⟨x40,gx40,hE⟩:=bO hE;refine S (ix Z2.c s6_33 gx40) (S Ld ?_);obtain⟨x41,gx41,hE⟩:=bO hE;refine s0 (callR rfl rfl (Z9_walk (gM:=gM) (oM:=oM) gx41 _ hpG (by assumption))) rfl ?_;refine S NB (nil ?_);refine cE hE (fun hc42 hE=>?_) (fun hc42 hE=>?_)
     ·refine seqR ?_;obtain⟨x44,gx44,hE⟩:=bO hE;refine s0 (callR rfl rfl (Z31_walk (gT:=gT) (oT:=oT) (gM:=gM) (oM:=oM) gx44 _ hpG (by assumption) hpG (by assumption))) rfl ?_;refine S As (nil ?_);exact rt hE
     refine sk hK38 ?_;clear hK38 K38;refine region ?_;refine S Mv ?_;refine SI ?_;refine S As (nil ?_);exact hK32 _ (n32,(s6_33+1)) Weak.toA hE (Nat.lt_succ_self _)
    refine AWp.exit ?_;exact hK11 _ () Weak.toA hE
 rintro _ hE;try dsimp only at hE
 unfold Z30_j11 at hE;refine seqJH KeepsT.nil (fun(z:Unit)=>[]) (fun z=>H) (fun z=>Z30_j12 =some r) ?_ ?_
 ·intro K12 hK12;refine seqR (S As (nil ?_));refine block ?_;refine loopH (TA 2 (TA 3 KeepsT.nil)) (fun(z:Nat×Nat)=>[(7,.a (.d (.int .i64 ((z.2:Nat):Int))))]) (fun z=>H) (fun z=>z.1) (fun z=>Z30_l16 a0 a1 z.1 z.2=some r) ((a0.FDefs.l.length+1),0) hE Weak.toA ?_;rintro ⟨n16,s7_17⟩ hE K16 hK16;try dsimp only at hE
  cases n16 with
  | zero=>cases hE
  | succ n16 =>
    rw [Z30_l16] at hE;refine seqK fun K18 hK18=>?_;refine seqR (S Mv (S Fv (S Ld ?_)));refine sLen (f:=TDef.c) (s:=a0.FDefs) (TK rfl) rfl rfl rfl rfl fun hL20=>?_;refine S BI (nil ?_);refine cE hE (fun hc21 hE=>?_) (fun hc21 hE=>?_)
    ·try dsimp only at hc21
     have hf21:=of_decide_eq_true hc21;refine sk hK18 ?_;clear hK18 K18;refine seqK fun K22 hK22=>?_;refine block ?_;refine AWp.seqD (Sd Ld (Sd Fv (Sd Ld (Sd Mv ?_))));obtain⟨x24,gx24,hE⟩:=bO hE;refine Sd (ix TDef.c s7_17 gx24) (Sd Fv (Sd Ld ?_));obtain⟨x25,gx25,hE⟩:=bO hE;refine Scd rfl rfl (Z98_walk gx25) ?_;refine Sd Mv (Sd EX (Sd EX ?_));refine DOps.sB (TK rfl) rfl rfl ?_ (by repeat (first|exact Snoc.nil|apply Snoc.cons))
     refine DOps.sLn (storeLFA (TK rfl) rfl rfl rfl rfl rfl) ?_;refine Sd As ?_;refine DOps.nil (by decide +kernel) ?_;refine freezeA 8 _ rfl (KA 2 (KA 3 (KA 7 (KA 9 Keeps.nil)))) ?_;refine AWp.seqD (Sd Mv (Sd NB (Sd Mv (G0d Fv ?_))));refine G1d 56 rfl Ld ?_;refine G0d Mv ?_;obtain⟨x27,gx27,hE⟩:=gO hE;refine DOps.gC rfl rfl (fun hC=>ungdA (k:=57) rfl (ungdA (k:=58) rfl (idxMn (f:=TDef.c) (n:=s7_17) (TK rfl) rfl (TK rfl) rfl rfl rfl (gx27 hC)))) rfl ?_
     refine G1d 59 rfl Ld ?_;refine G0d Ld ?_;obtain⟨x28,gx28,hE⟩:=gO hE;refine Gc2d 60 61 rfl rfl rfl rfl rfl rfl (fun hC=>Z34_walk (gx28 hC)) ?_;refine G1d 62 rfl NB ?_;refine Sd PO ?_;refine DOps.nil (by decide +kernel) ?_;refine cE hE (fun hc29 hE=>?_) (fun hc29 hE=>?_)
     ·refine seqR (S As (nil ?_));exact rt hE
     refine sk hK22 ?_;clear hK22 K22;refine region ?_;refine S Mv ?_;refine SI ?_;refine S As (nil ?_);exact hK16 _ (n16,(s7_17+1)) Weak.toA hE (Nat.lt_succ_self _)
    refine AWp.exit ?_;exact hK12 _ () Weak.toA hE
 rintro _ hE;try dsimp only at hE
 unfold Z30_j12 at hE;refine seqR ?_;obtain⟨x14,gx14,hE⟩:=bO hE;refine s0 (callR rfl rfl (Z31_walk (gT:=gT) (oT:=oT) (gM:=gM) (oM:=oM) gx14 _ hpG (by assumption) hpG (by assumption))) rfl ?_;refine S As (nil ?_);exact rt hE
end
end Go.Proofs
