import Derived.Test.YtmmmdpmnafkblaaGreatDoorV4
set_option maxRecDepth 100000
set_option maxHeartbeats 2000000
set_option linter.unusedVariables false
set_option linter.unusedSimpArgs false
namespace Go.Proofs
open Go Go.Ab
open AOps Cert AWp Keeps KeepsT
variable {lou:Lou}
def Z11_j10  (s3_11:Bs):Option Bs:=some s3_11
def Z11_j8 (a0:Z2)  (s3_9:Bs):Option Bs:=bif ((!(a0.FFrom==([]:Bs)))||(!(a0.FTo==([]:Bs)))) then((Z24 a0.FFrom).bind fun x15=>(catC ([58,32]:Bs) x15).bind fun x16=>(catC x16 ([32,45,62,32]:Bs)).bind fun x17=>(Z24 a0.FTo).bind fun x18=>(catC x17 x18).bind fun x19=>(catC s3_9 x19).bind fun x20=>Z11_j10   x20) else(Z11_j10   s3_9)
def Z11_j6 (a0:Z2)  (s3_7:Bs):Option Bs:=bif (!(a0.FArg==([]:Bs))) then((catC ([40]:Bs) a0.FArg).bind fun x23=>(catC x23 ([41]:Bs)).bind fun x24=>(catC s3_7 x24).bind fun x25=>Z11_j8 a0  x25) else(Z11_j8 a0  s3_7)
def Z11 (a0:Z2):Option Bs:=(Z25 a0.FKind).bind fun x3=>(catC x3 ([32]:Bs)).bind fun x4=>(catC x4 a0.FType).bind fun x5=>bif (!(a0.FField==([]:Bs))) then((catC ([46]:Bs) a0.FField).bind fun x28=>(catC x5 x28).bind fun x29=>Z11_j6 a0  x29) else(Z11_j6 a0  x5)
theorem Z11_walk {a0:Z2}{oT:Ab.Obj}{gT:Nat}{r:Bs}(hE:Z11 a0=some r) (H:Heap) (hgT:H gT=some oT) (hoT:IsTab Tryz.prog oT):AC Tryz.prog 15 [.agg (Z2.c a0)] H fun v h'=>v=.a (.d (.str r))/\h'=H:=by
 unfold Z11 at hE;refine AC.oW 48 [.tmp 2] Tryz.call15 Tryz.func15 ?_;refine seqR (S BX (S As (nil ?_)));refine AWp.seqD (Sd Fv (Sd Ld ?_));obtain⟨x3,gx3,hE⟩:=bO hE;refine DOps.s0 (callR rfl rfl (Z25_walk (gT:=gT) (oT:=oT) gx3 _ hpG (by assumption))) rfl ?_;obtain⟨x4,gx4,hE⟩:=bO hE;refine DOps.s0 (catM rfl rfl gx4) rfl ?_;refine Sd Fv (Sd Ld ?_);obtain⟨x5,gx5,hE⟩:=bO hE;refine DOps.s0 (catM rfl rfl gx5) rfl ?_
 refine Sd As ?_;refine DOps.nil (by decide +kernel) ?_;refine seqJH (TA 1 kN) (fun(z:Bs)=>[(3,.a (.d (.str z)))]) (fun z=>H) (fun z=>Z11_j6 a0 z=some r) ?_ ?_
 ·intro K6 hK6;refine seqR (S Fv (S Ld (S BS (nil ?_))));refine cE hE (fun hc27 hE=>?_) (fun hc27 hE=>?_)
  ·refine region ?_;refine S Mv (S Fv (S Ld ?_));obtain⟨x28,gx28,hE⟩:=bO hE;refine s0 (catM rfl rfl gx28) rfl ?_;obtain⟨x29,gx29,hE⟩:=bO hE;refine s0 (catM rfl rfl gx29) rfl ?_;refine S As (nil ?_);exact hK6 _ x29 wA hE
  refine AWp.skip ?_;exact hK6 _ x5 wA hE
 rintro s3_7 hE;try dsimp only at hE
 unfold Z11_j6 at hE;refine seqJH (TA 1 kN) (fun(z:Bs)=>[(3,.a (.d (.str z)))]) (fun z=>H) (fun z=>Z11_j8 a0 z=some r) ?_ ?_
 ·intro K8 hK8;refine seqR (S Fv (S Ld (S BS (nil ?_))));refine cE hE (fun hc22 hE=>?_) (fun hc22 hE=>?_)
  ·refine region ?_;refine S Mv (S Fv (S Ld ?_));obtain⟨x23,gx23,hE⟩:=bO hE;refine s0 (catM rfl rfl gx23) rfl ?_;obtain⟨x24,gx24,hE⟩:=bO hE;refine s0 (catM rfl rfl gx24) rfl ?_;obtain⟨x25,gx25,hE⟩:=bO hE;refine s0 (catM rfl rfl gx25) rfl ?_;refine S As (nil ?_);exact hK8 _ x25 wA hE
  refine AWp.skip ?_;exact hK8 _ s3_7 wA hE
 rintro s3_9 hE;try dsimp only at hE
 unfold Z11_j8 at hE;refine seqJH kN (fun(z:Bs)=>[(3,.a (.d (.str z)))]) (fun z=>H) (fun z=>Z11_j10 z=some r) ?_ ?_
 ·intro K10 hK10;refine seqR (S Fv (S Ld (S BS (S Mv (G0 Fv ?_)))));refine G1 32 rfl Ld ?_;refine G1 33 rfl BS ?_;refine S PO (nil ?_);refine cE hE (fun hc14 hE=>?_) (fun hc14 hE=>?_)
  ·refine AWp.draw rfl ?_;refine Sd Mv (Sd Fv (Sd Ld ?_));obtain⟨x15,gx15,hE⟩:=bO hE;refine Scd rfl rfl (Z24_walk gx15) ?_;obtain⟨x16,gx16,hE⟩:=bO hE;refine DOps.s0 (catM rfl rfl gx16) rfl ?_;obtain⟨x17,gx17,hE⟩:=bO hE;refine DOps.s0 (catM rfl rfl gx17) rfl ?_;refine Sd Fv (Sd Ld ?_);obtain⟨x18,gx18,hE⟩:=bO hE;refine Scd rfl rfl (Z24_walk gx18) ?_;obtain⟨x19,gx19,hE⟩:=bO hE;refine DOps.s0 (catM rfl rfl gx19) rfl ?_
   obtain⟨x20,gx20,hE⟩:=bO hE;refine DOps.s0 (catM rfl rfl gx20) rfl ?_;refine Sd As ?_;refine DOps.nil (by decide +kernel) ?_;exact hK10 _ x20 wA hE
  refine AWp.skip ?_;exact hK10 _ s3_9 wA hE
 rintro s3_11 hE;try dsimp only at hE
 unfold Z11_j10 at hE;refine seqR (S Mv (S As (nil ?_)));exact rt hE
def Z29 (a0:Bs) (a1:Bs):Option Bool:=guardO ((decide (((a1.length:Nat):Int)<=((a0.length:Nat):Int)))) (subC ((a0.length:Nat):Int) ((a1.length:Nat):Int)) (0:Int) fun x5=>guardO ((decide (((a1.length:Nat):Int)<=((a0.length:Nat):Int)))) (cutC a0 (some x5) none) ([]:Bs) fun x6=>some ((decide (((a1.length:Nat):Int)<=((a0.length:Nat):Int)))&&((x6==a1)))
theorem Z29_walk {a0 a1:Bs}{r:Bool}(hE:Z29 a0 a1=some r) (H:Heap) :AC Tryz.prog 74 [.d (.str a0),.d (.str a1)] H fun v h'=>v=.a (.d (.bool r))/\h'=H:=by
 unfold Z29 at hE;refine AC.oW 21 [.tmp 4] Tryz.call74 Tryz.func74 ?_;refine seqR (S As (nil ?_));refine seqR (S Mv ?_);refine sLenS (TK rfl) rfl rfl rfl rfl fun hL3=>?_;refine S Mv ?_;refine sLenS (TK rfl) rfl rfl rfl rfl fun hL4=>?_;refine S BI (S Mv (G0 Mv (G0 Mv ?_)));refine gC rfl rfl (fun hC=>ungdA (k:=12) rfl (lenS (TK rfl) rfl rfl rfl)) rfl ?_;refine G0 Mv ?_;refine gC rfl rfl (fun hC=>ungdA (k:=14) rfl (lenS (TK rfl) rfl rfl rfl)) rfl ?_
 obtain⟨x5,gx5,hE⟩:=gO hE;refine gC rfl rfl (fun hC=>ungdA (k:=13) rfl (ungdA (k:=15) rfl (subM rfl rfl (gx5 hC)))) rfl ?_;obtain⟨x6,gx6,hE⟩:=gO hE;refine gC rfl rfl (fun hC=>ungdA (k:=11) rfl (ungdA (k:=16) rfl (cutM (l:=(some x5)) (r:=none) (TK rfl) rfl rfl rfl trivial (by simp) (gx6 hC)))) rfl ?_;refine G0 Mv ?_;refine G2 17 18 rfl rfl BS ?_;refine S PA (S As (nil ?_));exact rt hE
def Z135 (a0:Bs) (a1:Bs):Option Bool:=(Z29 a0 a1).bind fun x3=>some x3
theorem Z135_walk {a0 a1:Bs}{r:Bool}(hE:Z135 a0 a1=some r) (H:Heap) :AC Tryz.prog 40 [.d (.str a0),.d (.str a1)] H fun v h'=>v=.a (.d (.bool r))/\h'=H:=by
 unfold Z135 at hE;refine AC.oW 8 [.tmp 4] Tryz.call40 Tryz.func40 ?_;refine seqR (S As (nil ?_));refine seqR (S Mv (S Mv ?_));obtain⟨x3,gx3,hE⟩:=bO hE;refine Sc rfl rfl (Z29_walk gx3) ?_;refine S As (nil ?_);exact rt hE
def Z132 (a0:Bs) (a1:Bs):Option Bool:=none
theorem Z132_walk {a0 a1:Bs}{r:Bool}(hE:Z132 a0 a1=some r) (H:Heap) :AC Tryz.prog 41 [.d (.str a0),.d (.str a1)] H fun v h'=>v=.a (.d (.bool r))/\h'=H:=by cases hE
def Tryz.lay134_ren:Go.Shelf.Ren:=⟨fun|153=>134|152=>161|226=>162|227=>163|228=>164|137=>170|119=>185|224=>132|225=>131|217=>130|266=>159|n=>n,fun|9=>9|3=>3|4=>4|5=>5|21=>21|117=>187|116=>186|0=>0|46=>165|124=>206|n=>n,fun|n=>n⟩
theorem Tryz.lay134:Go.Proofs.Lays.n153 Tryz.prog Tryz.lay134_ren:={
 mixed:=by kernel_rfl
 f119:=Tryz.func185.trans (congrArg some (by kernel_rfl))
 f137:=Tryz.func170.trans (congrArg some (by kernel_rfl))
 f152:=Tryz.func161.trans (congrArg some (by kernel_rfl))
 f153:=Tryz.func134.trans (congrArg some (by kernel_rfl))
 f217:=Tryz.func130.trans (congrArg some (by kernel_rfl))
 f224:=Tryz.func132.trans (congrArg some (by kernel_rfl))
 f225:=Tryz.func131.trans (congrArg some (by kernel_rfl))
 f226:=Tryz.func162.trans (congrArg some (by kernel_rfl))
 f227:=Tryz.func163.trans (congrArg some (by kernel_rfl))
 f228:=Tryz.func164.trans (congrArg some (by kernel_rfl))
 f266:=Tryz.func159.trans (congrArg some (by kernel_rfl))
 t0:=Tryz.underlying0
 a0:=Tryz.isAgg0
 z0:=Tryz.sizeOf0
 v0:=Tryz.zeroValue0
 t3:=Tryz.underlying3
 a3:=Tryz.isAgg3
 z3:=Tryz.sizeOf3
 v3:=Tryz.zeroValue3
 t4:=Tryz.underlying4
 a4:=Tryz.isAgg4
 z4:=Tryz.sizeOf4
 v4:=Tryz.zeroValue4
 t5:=Tryz.underlying5
 a5:=Tryz.isAgg5
 z5:=Tryz.sizeOf5
 v5:=Tryz.zeroValue5
 t9:=Tryz.underlying9
 a9:=Tryz.isAgg9
 z9:=Tryz.sizeOf9
 v9:=Tryz.zeroValue9
 t21:=Tryz.underlying21
 a21:=Tryz.isAgg21
 z21:=Tryz.sizeOf21
 v21:=Tryz.zeroValue21
 t46:=Tryz.underlying165
 a46:=Tryz.isAgg165
 z46:=Tryz.sizeOf165
 v46:=Tryz.zeroValue165
 t116:=Tryz.underlying186
 a116:=Tryz.isAgg186
 z116:=Tryz.sizeOf186
 t117:=Tryz.underlying187
 a117:=Tryz.isAgg187
 z117:=Tryz.sizeOf187
 v117:=Tryz.zeroValue187
 t124:=Tryz.underlying206
 a124:=Tryz.isAgg206
 z124:=Tryz.sizeOf206
 v124:=Tryz.zeroValue206 }
def Z136 (s c:Bs):Option Int:=idxAnyC s c
theorem Z136_walk {a0 a1:Bs}{r:Int}(hE:Z136 a0 a1=some r) (H:Heap):AC Tryz.prog 134 [.d (.str a0),.d (.str a1)] H fun v h'=>v=.a (.d (.int .i64 r))/\h'=H:=idxAny_calls Tryz.lay134 (by kernel_rfl) hE rfl
def Z147_j2  (s1_3:Int):Option Int:=some s1_3
def Z147_j13 (a0:Bs) (s1_6:Int) (x12:UInt8) (k_next_5:Int->Option Int) (s14_14:Bool):Option Int:=bif s14_14 then((addC s1_6 (1:Int)).bind fun x16=>k_next_5 x16) else(bif (decide (((x12.toNat:Nat):Int)=(35:Int))) then((cutC a0 (some s1_6) none).bind fun x20=>(Z136 x20 ([10,13]:Bs)).bind fun x21=>bif (decide ((0:Int)<=x21)) then((addC s1_6 x21).bind fun x24=>k_next_5 x24) else(k_next_5 ((a0.length:Nat):Int))) else(some s1_6))
def Z147_l5 (a0:Bs) :Nat->Int->Option Int
 | 0,_=>none
 | n5+1,s1_6=>bif (decide (s1_6<((a0.length:Nat):Int))) then((idxC a0 s1_6).bind fun x12=>bif (decide (((x12.toNat:Nat):Int)=(32:Int))) then(Z147_j13 a0 s1_6 x12 ((Z147_l5 a0 n5)) (decide (((x12.toNat:Nat):Int)=(32:Int)))) else(bif (decide (((x12.toNat:Nat):Int)=(9:Int))) then(Z147_j13 a0 s1_6 x12 ((Z147_l5 a0 n5)) (decide (((x12.toNat:Nat):Int)=(9:Int)))) else(bif (decide (((x12.toNat:Nat):Int)=(10:Int))) then(Z147_j13 a0 s1_6 x12 ((Z147_l5 a0 n5)) (decide (((x12.toNat:Nat):Int)=(10:Int)))) else(bif (decide (((x12.toNat:Nat):Int)=(13:Int))) then(Z147_j13 a0 s1_6 x12 ((Z147_l5 a0 n5)) (decide (((x12.toNat:Nat):Int)=(13:Int)))) else(Z147_j13 a0 s1_6 x12 ((Z147_l5 a0 n5)) (decide (((x12.toNat:Nat):Int)=(44:Int)))))))) else(Z147_j2   s1_6)
def Z147 (a0:Bs) (a1:Int):Option Int:=Z147_l5 a0 F0 a1
theorem Z147_walk {a0:Bs}{a1 r:Int}(hE:Z147 a0 a1=some r) (H:Heap) :AC Tryz.prog 108 [.d (.str a0),.d (.int .i64 a1)] H fun v h'=>v=.a (.d (.int .i64 r))/\h'=H:=by
 unfold Z147 at hE;refine AC.oW 36 [.tmp 4] Tryz.call108 Tryz.func108 ?_;refine seqR (S As (nil ?_));refine seqJH kN (fun(z:Int)=>[(1,.a (.d (.int .i64 z)))]) (fun z=>H) (fun z=>Z147_j2 z=some r) ?_ ?_
 ·intro K2 hK2;refine block ?_;refine loopH (TA 0 kN) (fun(z:Nat×Int)=>[(1,.a (.d (.int .i64 z.2)))]) (fun z=>H) (fun z=>z.1) (fun z=>Z147_l5 a0 z.1 z.2=some r) (F0,a1) hE wA ?_;rintro ⟨n5,s1_6⟩ hE K5 hK5;try dsimp only at hE
  cases n5 with
  | zero=>cases hE
  | succ n5 =>
    rw [Z147_l5] at hE;refine seqK fun K7 hK7=>?_;refine seqR (S Mv (S Mv ?_));refine sLenS (TK rfl) rfl rfl rfl rfl fun hL9=>?_;refine S BI (nil ?_);refine cE hE (fun hc10 hE=>?_) (fun hc10 hE=>?_)
    ·refine sk hK7 ?_;clear hK7 K7;refine block ?_;refine seqR (S Mv (S Mv ?_));obtain⟨x12,gx12,hE⟩:=bO hE;refine s0 (idxS (TK rfl) rfl rfl rfl gx12) rfl ?_;refine nil ?_;refine block ?_;refine seqJH (TA 0 (TA 1 (TA 12 kN))) (fun(z:Bool)=>[(14,.a (.d (.bool z)))]) (fun z=>H) (fun z=>Z147_j13 a0 s1_6 x12 ((Z147_l5 a0 n5)) z=some r) ?_ ?_
     ·intro K13 hK13;refine seqR (S BI (S As (nil ?_)));refine cE hE (fun hc28 hE=>?_) (fun hc28 hE=>?_)
      ·refine AWp.skip ?_;exact hK13 _ (decide (((x12.toNat:Nat):Int)=(32:Int))) wA hE
      refine seqR (S BI (S As (nil ?_)));refine cE hE (fun hc30 hE=>?_) (fun hc30 hE=>?_)
      ·refine AWp.skip ?_;exact hK13 _ (decide (((x12.toNat:Nat):Int)=(9:Int))) wA hE
      refine seqR (S BI (S As (nil ?_)));refine cE hE (fun hc32 hE=>?_) (fun hc32 hE=>?_)
      ·refine AWp.skip ?_;exact hK13 _ (decide (((x12.toNat:Nat):Int)=(10:Int))) wA hE
      refine seqR (S BI (S As (nil ?_)));refine cE hE (fun hc34 hE=>?_) (fun hc34 hE=>?_)
      ·refine AWp.skip ?_;exact hK13 _ (decide (((x12.toNat:Nat):Int)=(13:Int))) wA hE
      refine region ?_;refine S BI (S As (nil ?_));exact hK13 _ (decide (((x12.toNat:Nat):Int)=(44:Int))) wA hE
     rintro s14_14 hE;try dsimp only at hE
     unfold Z147_j13 at hE;refine cE hE (fun hc15 hE=>?_) (fun hc15 hE=>?_)
     ·refine region ?_;refine S Mv ?_;obtain⟨x16,gx16,hE⟩:=bO hE;refine s0 (addM rfl rfl gx16) rfl ?_;refine S As (nil ?_);exact hK5 _ (n5,x16) wA hE (nS _)
     refine seqR (S BI (S As (nil ?_)));refine cE hE (fun hc18 hE=>?_) (fun hc18 hE=>?_)
     ·refine seqR (S Mv (S Mv ?_));obtain⟨x20,gx20,hE⟩:=bO hE;refine s0 (cutM (l:=(some s1_6)) (r:=none) (TK rfl) rfl rfl rfl trivial (by simp) gx20) rfl ?_;obtain⟨x21,gx21,hE⟩:=bO hE;refine Sc rfl rfl (Z136_walk gx21) ?_;refine S As (nil ?_);refine seqR (S Mv (S BI (nil ?_)));refine cE hE (fun hc23 hE=>?_) (fun hc23 hE=>?_)
      ·refine region ?_;refine S Mv (S Mv ?_);obtain⟨x24,gx24,hE⟩:=bO hE;refine s0 (addM rfl rfl gx24) rfl ?_;refine S As (nil ?_);exact hK5 _ (n5,x24) wA hE (nS _)
      refine region ?_;refine S Mv ?_;refine sLenS (TK rfl) rfl rfl rfl rfl fun hL25=>?_;refine S As (nil ?_);exact hK5 _ (n5,((a0.length:Nat):Int)) wA hE (nS _)
     refine seqR (S Mv (S As (nil ?_)));exact rt hE
    refine AWp.exit ?_;exact hK2 _ s1_6 wA hE
 rintro s1_3 hE;try dsimp only at hE
 unfold Z147_j2 at hE;refine seqR (S Mv (S As (nil ?_)));exact rt hE
def Tryz.lay161_ren:Go.Shelf.Ren:=⟨fun|152=>161|137=>170|119=>185|224=>132|225=>131|217=>130|266=>159|n=>n,fun|9=>9|21=>21|3=>3|4=>4|5=>5|0=>0|46=>165|n=>n,fun|n=>n⟩
theorem Tryz.lay161:Go.Proofs.Lays.n152 Tryz.prog Tryz.lay161_ren:={
 mixed:=by kernel_rfl
 f119:=Tryz.func185.trans (congrArg some (by kernel_rfl))
 f137:=Tryz.func170.trans (congrArg some (by kernel_rfl))
 f152:=Tryz.func161.trans (congrArg some (by kernel_rfl))
 f217:=Tryz.func130.trans (congrArg some (by kernel_rfl))
 f224:=Tryz.func132.trans (congrArg some (by kernel_rfl))
 f225:=Tryz.func131.trans (congrArg some (by kernel_rfl))
 f266:=Tryz.func159.trans (congrArg some (by kernel_rfl))
 t0:=Tryz.underlying0
 a0:=Tryz.isAgg0
 z0:=Tryz.sizeOf0
 v0:=Tryz.zeroValue0
 t3:=Tryz.underlying3
 a3:=Tryz.isAgg3
 z3:=Tryz.sizeOf3
 v3:=Tryz.zeroValue3
 t4:=Tryz.underlying4
 a4:=Tryz.isAgg4
 z4:=Tryz.sizeOf4
 v4:=Tryz.zeroValue4
 t5:=Tryz.underlying5
 a5:=Tryz.isAgg5
 z5:=Tryz.sizeOf5
 v5:=Tryz.zeroValue5
 t9:=Tryz.underlying9
 a9:=Tryz.isAgg9
 z9:=Tryz.sizeOf9
 v9:=Tryz.zeroValue9
 t21:=Tryz.underlying21
 a21:=Tryz.isAgg21
 z21:=Tryz.sizeOf21
 v21:=Tryz.zeroValue21
 t46:=Tryz.underlying165
 a46:=Tryz.isAgg165
 z46:=Tryz.sizeOf165
 v46:=Tryz.zeroValue165 }
def Z137 (s:Bs) (r:Int):Option Int:=idxRuneC s r
theorem Z137_walk {a0:Bs}{a1 r:Int}(hE:Z137 a0 a1=some r) (H:Heap):AC Tryz.prog 161 [.d (.str a0),.d (.int .i32 a1)] H fun v h'=>v=.a (.d (.int .i64 r))/\h'=H:=idxRune_calls Tryz.lay161 hE rfl
def Z133 (a0:Bs) (a1:Int):Option Bool:=(Z137 a0 a1).bind fun x3=>some (decide ((0:Int)<=x3))
theorem Z133_walk {a0:Bs}{a1:Int}{r:Bool}(hE:Z133 a0 a1=some r) (H:Heap) :AC Tryz.prog 135 [.d (.str a0),.d (.int .i32 a1)] H fun v h'=>v=.a (.d (.bool r))/\h'=H:=by
 unfold Z133 at hE;refine AC.oW 9 [.tmp 4] Tryz.call135 Tryz.func135 ?_;refine seqR (S As (nil ?_));refine seqR (S Mv (S Mv ?_));obtain⟨x3,gx3,hE⟩:=bO hE;refine Sc rfl rfl (Z137_walk gx3) ?_;refine S BI (S As (nil ?_));exact rt hE
def Z28 (a0:Bs) (a1:Bs):Option Bool:=guardO ((decide (((a1.length:Nat):Int)<=((a0.length:Nat):Int)))) (cutC a0 none (some ((a1.length:Nat):Int))) ([]:Bs) fun x5=>some ((decide (((a1.length:Nat):Int)<=((a0.length:Nat):Int)))&&((x5==a1)))
theorem Z28_walk {a0 a1:Bs}{r:Bool}(hE:Z28 a0 a1=some r) (H:Heap) :AC Tryz.prog 165 [.d (.str a0),.d (.str a1)] H fun v h'=>v=.a (.d (.bool r))/\h'=H:=by
 unfold Z28 at hE;refine AC.oW 18 [.tmp 4] Tryz.call165 Tryz.func165 ?_;refine seqR (S As (nil ?_));refine seqR (S Mv ?_);refine sLenS (TK rfl) rfl rfl rfl rfl fun hL3=>?_;refine S Mv ?_;refine sLenS (TK rfl) rfl rfl rfl rfl fun hL4=>?_;refine S BI (S Mv (G0 Mv (G0 Mv ?_)));refine gC rfl rfl (fun hC=>ungdA (k:=12) rfl (lenS (TK rfl) rfl rfl rfl)) rfl ?_;obtain⟨x5,gx5,hE⟩:=gO hE;refine gC rfl rfl (fun hC=>ungdA (k:=11) rfl (ungdA (k:=13) rfl (cutM (l:=none) (r:=(some ((a1.length:Nat):Int))) (TK rfl) rfl rfl trivial rfl (by simp) (gx5 hC)))) rfl ?_
 refine G0 Mv ?_;refine G2 14 15 rfl rfl BS ?_;refine S PA (S As (nil ?_));exact rt hE
def Z134 (a0:Bs) (a1:Bs):Option Bool:=(Z28 a0 a1).bind fun x3=>some x3
theorem Z134_walk {a0 a1:Bs}{r:Bool}(hE:Z134 a0 a1=some r) (H:Heap) :AC Tryz.prog 136 [.d (.str a0),.d (.str a1)] H fun v h'=>v=.a (.d (.bool r))/\h'=H:=by
 unfold Z134 at hE;refine AC.oW 8 [.tmp 4] Tryz.call136 Tryz.func136 ?_;refine seqR (S As (nil ?_));refine seqR (S Mv (S Mv ?_));obtain⟨x3,gx3,hE⟩:=bO hE;refine Sc rfl rfl (Z28_walk gx3) ?_;refine S As (nil ?_);exact rt hE
def Z148_j2  (s1_3:Int):Option Int:=some s1_3
def Z148_l5 (a0:Bs) (a2:(Int->Option Bool)) :Nat->Int->Option Int
 | 0,_=>none
 | n5+1,s1_6=>guardO ((decide (s1_6<((a0.length:Nat):Int)))) (idxC a0 s1_6) (0:UInt8) fun x10=>guardO ((decide (s1_6<((a0.length:Nat):Int)))) (a2 (IntKind.wrap .i32 ((x10.toNat:Nat):Int))) false fun x11=>bif ((decide (s1_6<((a0.length:Nat):Int)))&&x11) then((addC s1_6 (1:Int)).bind fun x13=>(Z148_l5 a0 a2 n5) x13) else(Z148_j2   s1_6)
def Z148 (a0:Bs) (a1:Int) (a2:(Int->Option Bool)):Option Int:=Z148_l5 a0 a2 F0 a1
theorem Z148_walk {a0:Bs}{a1:Int}{a2:Int->Option Bool}{cl2:List D}{k2:Nat}{r:Int}(hE:Z148 a0 a1 a2=some r) (H:Heap) (hf2:∀x0 r,a2 x0=some r->∀H,AC Tryz.prog k2 ([.d (.int .i32 x0)]++cl2.map A.d) H fun v h'=>v=.a (.d (.bool r))/\h'=H):AC Tryz.prog 137 [.d (.str a0),.d (.int .i64 a1),.d (.func k2 cl2)] H fun v h'=>v=.a (.d (.int .i64 r))/\h'=H:=by
 unfold Z148 at hE;refine AC.oW 22 [.tmp 6] Tryz.call137 Tryz.func137 ?_;refine seqR (S As (nil ?_));refine seqJH kN (fun(z:Int)=>[(1,.a (.d (.int .i64 z)))]) (fun z=>H) (fun z=>Z148_j2 z=some r) ?_ ?_
 ·intro K2 hK2;refine block ?_;refine loopH (TA 0 (TA 2 kN)) (fun(z:Nat×Int)=>[(1,.a (.d (.int .i64 z.2)))]) (fun z=>H) (fun z=>z.1) (fun z=>Z148_l5 a0 a2 z.1 z.2=some r) (F0,a1) hE wA ?_;rintro ⟨n5,s1_6⟩ hE K5 hK5;try dsimp only at hE
  cases n5 with
  | zero=>cases hE
  | succ n5 =>
    rw [Z148_l5] at hE;refine seqK fun K7 hK7=>?_;refine seqR (S Mv (S Mv ?_));refine sLenS (TK rfl) rfl rfl rfl rfl fun hL9=>?_;refine S BI (S Mv (G0 Mv (G0 Mv (G0 Mv ?_))));obtain⟨x10,gx10,hE⟩:=gO hE;refine gC rfl rfl (fun hC=>ungdA (k:=13) rfl (ungdA (k:=14) rfl (idxS (TK rfl) rfl rfl rfl (gx10 hC)))) rfl ?_;refine gC rfl rfl (fun hC=>ungdA (k:=15) rfl (convI (TK rfl) (TK rfl) rfl rfl)) rfl ?_;obtain⟨x11,gx11,hE⟩:=gO hE
    refine gC rfl rfl (fun hC=>ungdA (k:=12) rfl (ungdA (k:=16) rfl (callP rfl rfl (hf2 _ _ (gx11 hC))))) rfl ?_;refine S PA (nil ?_);refine cE hE (fun hc12 hE=>?_) (fun hc12 hE=>?_)
    ·refine sk hK7 ?_;clear hK7 K7;refine block ?_;refine region ?_;refine S Mv ?_;obtain⟨x13,gx13,hE⟩:=bO hE;refine s0 (addM rfl rfl gx13) rfl ?_;refine S As (nil ?_);exact hK5 _ (n5,x13) wA hE (nS _)
    refine AWp.exit ?_;exact hK2 _ s1_6 wA hE
 rintro s1_3 hE;try dsimp only at hE
 unfold Z148_j2 at hE;refine seqR (S Mv (S As (nil ?_)));exact rt hE
def Z144 (a0:Int):Option Bool:=some (((((decide ((97:Int)<=a0))&&(decide (a0<=(122:Int))))||((decide ((65:Int)<=a0))&&(decide (a0<=(90:Int)))))||((decide ((48:Int)<=a0))&&(decide (a0<=(57:Int)))))||(decide (a0=(95:Int))))
theorem Z144_walk {a0:Int}{r:Bool}(hE:Z144 a0=some r) (H:Heap) :AC Tryz.prog 138 [.d (.int .i32 a0)] H fun v h'=>v=.a (.d (.bool r))/\h'=H:=by
 unfold Z144 at hE;refine AC.oW 29 [.tmp 2] Tryz.call138 Tryz.func138 ?_;refine seqR (S As (nil ?_));refine seqR (S Mv (S BI (S Mv (G0 Mv ?_))));refine G1 6 rfl BI ?_;refine S PA (S Mv (G0 Mv ?_));refine G1 10 rfl BI ?_;refine G1 11 rfl Mv ?_;refine G0 Mv ?_;refine G1 13 rfl BI ?_;refine gC rfl rfl (fun hC=>ungdA (k:=12) rfl (pickAndA rfl rfl rfl)) rfl ?_;refine S PO (S Mv (G0 Mv ?_));refine G1 18 rfl BI ?_
 refine G1 19 rfl Mv ?_;refine G0 Mv ?_;refine G1 21 rfl BI ?_;refine gC rfl rfl (fun hC=>ungdA (k:=20) rfl (pickAndA rfl rfl rfl)) rfl ?_;refine S PO (S Mv (G0 Mv ?_));refine G1 26 rfl BI ?_;refine S PO (S As (nil ?_));exact rt hE
def Z140 (a0:Bs):Option (Int×Int):=none
theorem Z140_walk {a0:Bs}{r:Int×Int}(hE:Z140 a0=some r) (H:Heap) :AC Tryz.prog 139 [.d (.str a0)] H fun v h'=>v=.tup [.d (.int .i64 r.1),.d (.int .i64 r.2)]/\h'=H:=by cases hE
def Z145 (a0:Bs) (a1:Int):Option Int:=none
theorem Z145_walk {a0:Bs}{a1 r:Int}(hE:Z145 a0 a1=some r) (H:Heap) :AC Tryz.prog 140 [.d (.str a0),.d (.int .i64 a1)] H fun v h'=>v=.a (.d (.int .i64 r))/\h'=H:=by cases hE
def Z142 (a0:Bs):Option (Bs×Int):=none
theorem Z142_walk {a0:Bs}{r:Bs×Int}(hE:Z142 a0=some r) (H:Heap) :AC Tryz.prog 141 [.d (.str a0)] H fun v h'=>v=.tup [.d (.str r.1),.d (.int .i64 r.2)]/\h'=H:=by cases hE
end Go.Proofs

namespace Go.Proofs
open Go Go.Ab
open AOps Cert AWp Keeps KeepsT
variable {lou:Lou}
def Z146 (a0:Bs) (a1:Int):Option (Z8×Int×Int):=(idxC a0 a1).bind fun x3=>(Z133 ([33,36,38,40,41,58,61,64,91,93,123,124,125]:Bs) (IntKind.wrap .i32 ((x3.toNat:Nat):Int))).bind fun x6=>bif x6 then((addC a1 (1:Int)).bind fun x9=>(cutC a0 (some a1) (some x9)).bind fun x10=>(addC a1 (1:Int)).bind fun x11=>some ((Z8.mk (1:Int) x10 a1),x11,(0:Int))) else(bif (decide ((IntKind.wrap .i32 ((x3.toNat:Nat):Int))=(46:Int))) then((cutC a0 (some a1) none).bind fun x16=>(Z134 x16 ([46,46,46]:Bs)).bind fun x17=>bif (!x17) then(some ((Z8.mk (0:Int) ([]:Bs) (0:Int)),(0:Int),(3:Int))) else((addC a1 (3:Int)).bind fun x21=>some ((Z8.mk (1:Int) ([46,46,46]:Bs) a1),x21,(0:Int)))) else(bif ((decide ((IntKind.wrap .i32 ((x3.toNat:Nat):Int))=(45:Int)))||((decide ((48:Int)<=(IntKind.wrap .i32 ((x3.toNat:Nat):Int))))&&(decide ((IntKind.wrap .i32 ((x3.toNat:Nat):Int))<=(57:Int))))) then((addC a1 (1:Int)).bind fun x25=>(Z148 a0 x25 Z144).bind fun x26=>(cutC a0 (some a1) (some x26)).bind fun x28=>(Z140 x28).bind fun x29=>(cutC a0 (some a1) (some x26)).bind fun x31=>some ((Z8.mk (3:Int) x31 a1),x26,x29.2)) else((Z144 (IntKind.wrap .i32 ((x3.toNat:Nat):Int))).bind fun x33=>bif x33 then((Z148 a0 a1 Z144).bind fun x36=>(subC x36 a1).bind fun x39=>bif (decide ((64:Int)<x39)) then(some ((Z8.mk (0:Int) ([]:Bs) (0:Int)),(0:Int),(3:Int))) else((cutC a0 (some a1) (some x36)).bind fun x43=>some ((Z8.mk (2:Int) x43 a1),x36,(0:Int)))) else(bif (decide ((IntKind.wrap .i32 ((x3.toNat:Nat):Int))=(34:Int))) then((Z145 a0 a1).bind fun x47=>bif (decide (x47<(0:Int))) then(some ((Z8.mk (0:Int) ([]:Bs) (0:Int)),(0:Int),(3:Int))) else((cutC a0 (some a1) (some x47)).bind fun x53=>(Z142 x53).bind fun x54=>some ((Z8.mk (4:Int) x54.1 a1),x47,x54.2))) else(some ((Z8.mk (0:Int) ([]:Bs) (0:Int)),(0:Int),(3:Int)))))))
theorem Z146_walk {a0:Bs}{a1:Int}{r:Z8×Int×Int}(hE:Z146 a0 a1=some r) (H:Heap) :AC Tryz.prog 109 [.d (.str a0),.d (.int .i64 a1)] H fun v h'=>v=.tup [.agg (Z8.c r.1),.d (.int .i64 r.2.1),.d (.int .i64 r.2.2)]/\h'=H:=by
 unfold Z146 at hE;refine AC.oW 116 [.cell 4 127,.tmp 5,.tmp 6] Tryz.call109 Tryz.func109 ?_;refine seqR ?_;refine Sl ?_;refine S As (S As (nil ?_));refine seqR (S Mv (S Mv ?_));obtain⟨x3,gx3,hE⟩:=bO hE;refine s0 (idxS (TK rfl) rfl rfl rfl gx3) rfl ?_;refine s0 (convI (TK rfl) (TK rfl) rfl rfl) rfl ?_;refine S As (nil ?_);refine seqK fun K4 hK4=>?_;refine block ?_;refine seqR (S Mv ?_);obtain⟨x6,gx6,hE⟩:=bO hE
 refine Sc rfl rfl (Z133_walk gx6) ?_;refine S As (nil ?_);refine cE hE (fun hc7 hE=>?_) (fun hc7 hE=>?_)
 ·refine seqR (S Mv (S Mv (S Mv ?_)));obtain⟨x9,gx9,hE⟩:=bO hE;refine s0 (addM rfl rfl gx9) rfl ?_;obtain⟨x10,gx10,hE⟩:=bO hE;refine s0 (cutM (l:=(some a1)) (r:=(some x9)) (TK rfl) rfl rfl rfl rfl (by simp) gx10) rfl ?_;refine S Mv (S BU (S Mv ?_));obtain⟨x11,gx11,hE⟩:=bO hE;refine s0 (addM rfl rfl gx11) rfl ?_;refine Sf ?_;refine S As (S As (nil ?_));exact rt hE
 refine seqR (S Mv (S BI (S As (nil ?_))));refine cE hE (fun hc13 hE=>?_) (fun hc13 hE=>?_)
 ·refine seqK fun K14 hK14=>?_;refine seqR (S Mv (S Mv ?_));obtain⟨x16,gx16,hE⟩:=bO hE;refine s0 (cutM (l:=(some a1)) (r:=none) (TK rfl) rfl rfl rfl trivial (by simp) gx16) rfl ?_;obtain⟨x17,gx17,hE⟩:=bO hE;refine Sc rfl rfl (Z134_walk gx17) ?_;refine S NB (nil ?_);refine cE hE (fun hc18 hE=>?_) (fun hc18 hE=>?_)
  ·refine seqR (S BU ?_);refine Sf ?_;refine S As (S As (nil ?_));exact rt hE
  refine sk hK14 ?_;clear hK14 K14;refine seqR (S Mv (S BU (S Mv ?_)));obtain⟨x21,gx21,hE⟩:=bO hE;refine s0 (addM rfl rfl gx21) rfl ?_;refine Sf ?_;refine S As (S As (nil ?_));exact rt hE
 refine seqR (S Mv (S BI (S Mv (G0 Mv ?_))));refine G1 48 rfl BI ?_;refine G1 49 rfl Mv ?_;refine G0 Mv ?_;refine G1 51 rfl BI ?_;refine gC rfl rfl (fun hC=>ungdA (k:=50) rfl (pickAndA rfl rfl rfl)) rfl ?_;refine S PO (S As (nil ?_));refine cE hE (fun hc23 hE=>?_) (fun hc23 hE=>?_)
 ·refine seqR (S Mv (S Mv ?_));obtain⟨x25,gx25,hE⟩:=bO hE;refine s0 (addM rfl rfl gx25) rfl ?_;obtain⟨x26,gx26,hE⟩:=bO hE;refine s0 (callP rfl rfl (fun H=>Z148_walk gx26 H (fun _ _ hx=>Z144_walk hx))) rfl ?_;refine S As (nil ?_);refine seqR (S Mv (S Mv (S Mv ?_)));obtain⟨x28,gx28,hE⟩:=bO hE;refine s0 (cutM (l:=(some a1)) (r:=(some x26)) (TK rfl) rfl rfl rfl rfl (by simp) gx28) rfl ?_;obtain⟨x29,gx29,hE⟩:=bO hE
  refine Sc rfl rfl (Z140_walk gx29) ?_;refine S Mv (S EX (S EX (S As (S As (nil ?_)))));refine seqR (S Mv (S Mv (S Mv ?_)));obtain⟨x31,gx31,hE⟩:=bO hE;refine s0 (cutM (l:=(some a1)) (r:=(some x26)) (TK rfl) rfl rfl rfl rfl (by simp) gx31) rfl ?_;refine S Mv (S BU (S Mv (S Mv ?_)));refine Sf ?_;refine S As (S As (nil ?_));exact rt hE
 refine seqR (S Mv ?_);obtain⟨x33,gx33,hE⟩:=bO hE;refine Sc rfl rfl (Z144_walk gx33) ?_;refine S As (nil ?_);refine cE hE (fun hc34 hE=>?_) (fun hc34 hE=>?_)
 ·refine seqR (S Mv (S Mv ?_));obtain⟨x36,gx36,hE⟩:=bO hE;refine s0 (callP rfl rfl (fun H=>Z148_walk gx36 H (fun _ _ hx=>Z144_walk hx))) rfl ?_;refine S As (nil ?_);refine seqK fun K37 hK37=>?_;refine seqR (S Mv (S Mv ?_));obtain⟨x39,gx39,hE⟩:=bO hE;refine s0 (subM rfl rfl gx39) rfl ?_;refine S BI (nil ?_);refine cE hE (fun hc40 hE=>?_) (fun hc40 hE=>?_)
  ·refine seqR (S BU ?_);refine Sf ?_;refine S As (S As (nil ?_));exact rt hE
  refine sk hK37 ?_;clear hK37 K37;refine seqR (S Mv (S Mv (S Mv ?_)));obtain⟨x43,gx43,hE⟩:=bO hE;refine s0 (cutM (l:=(some a1)) (r:=(some x36)) (TK rfl) rfl rfl rfl rfl (by simp) gx43) rfl ?_;refine S Mv (S BU (S Mv ?_));refine Sf ?_;refine S As (S As (nil ?_));exact rt hE
 refine seqR (S Mv (S BI (S As (nil ?_))));refine cE hE (fun hc45 hE=>?_) (fun hc45 hE=>?_)
 ·refine seqR (S Mv (S Mv ?_));obtain⟨x47,gx47,hE⟩:=bO hE;refine Sc rfl rfl (Z145_walk gx47) ?_;refine S As (nil ?_);refine seqK fun K48 hK48=>?_;refine seqR (S Mv (S BI (nil ?_)));refine cE hE (fun hc50 hE=>?_) (fun hc50 hE=>?_)
  ·refine seqR (S BU ?_);refine Sf ?_;refine S As (S As (nil ?_));exact rt hE
  refine sk hK48 ?_;clear hK48 K48;refine seqR (S Mv (S Mv (S Mv ?_)));obtain⟨x53,gx53,hE⟩:=bO hE;refine s0 (cutM (l:=(some a1)) (r:=(some x47)) (TK rfl) rfl rfl rfl rfl (by simp) gx53) rfl ?_;obtain⟨x54,gx54,hE⟩:=bO hE;refine Sc rfl rfl (Z142_walk gx54) ?_;refine S Mv (S EX (S EX (S As (S As (nil ?_)))));refine seqR (S Mv (S Mv (S BU (S Mv (S Mv ?_)))));refine Sf ?_;refine S As (S As (nil ?_));exact rt hE
 refine sk hK4 ?_;clear hK4 K4;refine seqR (S BU ?_);refine Sf ?_;refine S As (S As (nil ?_));exact rt hE
def Z143_j8 (a0:Bs)  (s5_9:(Sl Z8)):Option ((Sl Z8)×Int×Int):=(appC 32 s5_9 (⟨false,[(Z8.mk (5:Int) ([]:Bs) ((a0.length:Nat):Int))]⟩:Sl Z8)).bind fun x12=>some (x12,(0:Int),(0:Int))
def Z143_l15 (a0:Bs) :Nat->(Sl Z8)->Int->Option ((Sl Z8)×Int×Int)
 | 0,_,_=>none
 | n15+1,s5_16,s6_17=>bif (decide (s6_17<((a0.length:Nat):Int))) then((Z146 a0 s6_17).bind fun x24=>bif (!decide (x24.2.2=(0:Int))) then(some ((Sl.nil:Sl Z8),s6_17,x24.2.2)) else((appC 32 s5_16 (⟨false,[x24.1]⟩:Sl Z8)).bind fun x30=>(Z147 a0 x24.2.1).bind fun x31=>(Z143_l15 a0 n15) x30 x31)) else(Z143_j8 a0  s5_16)
def Z143 (a0:Bs):Option ((Sl Z8)×Int×Int):=bif (decide ((65536:Int)<((a0.length:Nat):Int))) then(some ((Sl.nil:Sl Z8),(65536:Int),(4:Int))) else((Z147 a0 (0:Int)).bind fun x14=>Z143_l15 a0 F0 (Sl.nil:Sl Z8) x14)
theorem Z143_walk {a0:Bs}{r:((Sl Z8)×Int×Int)}(hE:Z143 a0=some r) (H:Heap) :AC Tryz.prog 76 [.d (.str a0)] H fun v h'=>v=.tup [.d (Sl.d 3 Z8.c none r.1),.d (.int .i64 r.2.1),.d (.int .i64 r.2.2)]/\h'=H:=by
 unfold Z143 at hE;refine AC.oW 44 [.tmp 2,.tmp 3,.tmp 4] Tryz.call76 Tryz.func76 ?_;refine AWp.tok 3 fun tk1 htk1=>?_;refine seqR ?_;refine s0 (assignNil (k':=3) rfl) rfl ?_;refine S As (S As (nil ?_));refine seqK fun K2 hK2=>?_;refine seqR (S Mv ?_);refine sLenS (TK rfl) rfl rfl rfl rfl fun hL4=>?_;refine S BI (nil ?_);refine cE hE (fun hc5 hE=>?_) (fun hc5 hE=>?_)
 ·refine seqR ?_;refine s0 (assignNil (k':=3) rfl) rfl ?_;refine S As (S As (nil ?_));refine AWp.ret ?_;repeat (first|refine xBlock_ret ?_|refine xThen_ret ?_)
  obtain rfl:=oJ hE;refine retQ.retF H rfl ⟨rfl,rfl⟩ ?_
  first|exact Heap.sub_set htk1|(simp only [Heap.set_set]; exact Heap.sub_set htk1)
 refine sk hK2 ?_;clear hK2 K2;refine seqR (S As (nil ?_));refine AWp.nilTok 5 3 tk1 rfl hpG ?_;refine seqJH (TA 0 kN) (fun(z:(Sl Z8))=>[(5,.a (.d (Sl.d 3 Z8.c (some tk1) z)))]) (fun z=>(H.set tk1 (some (.tok 3 z.l.length)))) (fun z=>Z143_j8 a0 z=some r) ?_ ?_
 ·intro K8 hK8;refine seqR (S Mv ?_);obtain⟨x14,gx14,hE⟩:=bO hE;refine Sc rfl rfl (Z147_walk gx14) ?_;refine S As (nil ?_);refine block ?_;refine loopH (TA 0 kN) (fun(z:Nat×(Sl Z8)×Int)=>[(5,.a (.d (Sl.d 3 Z8.c (some tk1) z.2.1))),(6,.a (.d (.int .i64 z.2.2)))]) (fun z=>(H.set tk1 (some (.tok 3 z.2.1.l.length)))) (fun z=>z.1) (fun z=>Z143_l15 a0 z.1 z.2.1 z.2.2=some r) (F0,(Sl.nil:Sl Z8),x14) hE wA ?_
  rintro ⟨n15,s5_16,s6_17⟩ hE K15 hK15;try dsimp only at hE
  cases n15 with
  | zero=>cases hE
  | succ n15 =>
    rw [Z143_l15] at hE;refine seqK fun K18 hK18=>?_;refine seqR (S Mv (S Mv ?_));refine sLenS (TK rfl) rfl rfl rfl rfl fun hL20=>?_;refine S BI (nil ?_);refine cE hE (fun hc21 hE=>?_) (fun hc21 hE=>?_)
    ·refine sk hK18 ?_;clear hK18 K18;refine seqK fun K22 hK22=>?_;refine block ?_;refine seqR (S Mv (S Mv ?_));obtain⟨x24,gx24,hE⟩:=bO hE;refine Sc rfl rfl (Z146_walk gx24) ?_;refine S Mv (S EX (S EX (S EX ?_)));refine Sl ?_;refine Sf ?_;refine S As (S As (nil ?_));refine freezeA 7 _ rfl (KA 0 (KA 5 (KA 6 (KA 8 (KA 9 Keeps.nil))))) ?_;refine seqK fun K25 hK25=>?_;refine seqR (S Mv (S BI (nil ?_)))
     refine cE hE (fun hc27 hE=>?_) (fun hc27 hE=>?_)
     ·refine seqR (S Mv (S Mv ?_));refine s0 (assignNil (k':=3) rfl) rfl ?_;refine S As (S As (nil ?_));refine AWp.ret ?_;repeat (first|refine xBlock_ret ?_|refine xThen_ret ?_)
      obtain rfl:=oJ hE;refine retQ.retF H rfl ⟨rfl,rfl⟩ ?_
      first|exact Heap.sub_set htk1|(simp only [Heap.set_set]; exact Heap.sub_set htk1)
     refine sk hK25 ?_;clear hK25 K25;refine seqR (S Mv (S Ld (S BV ?_)));obtain⟨x30,gx30,hE⟩:=bO hE;refine SH (am Z8.c (TK rfl) rfl (TK rfl) (TK rfl) gx30) ?_;refine hq (H.set tk1 (some (.tok 3 x30.l.length))) ?_;refine S As (nil ?_);refine region ?_;refine S Mv (S As (nil ?_));refine hK22 _ ?_;clear hK22 K22;refine region ?_;refine S Mv (S Mv ?_);obtain⟨x31,gx31,hE⟩:=bO hE;refine Sc rfl rfl (Z147_walk gx31) ?_
     refine S As (nil ?_);exact hK15 _ (n15,x30,x31) wA hE (nS _)
    refine AWp.exit ?_;exact hK8 _ s5_16 wA hE
 rintro s5_9 hE;try dsimp only at hE
 unfold Z143_j8 at hE;refine seqR (S Mv (S Mv ?_));refine sLenS (TK rfl) rfl rfl rfl rfl fun hL11=>?_;refine S BU (S BV ?_);obtain⟨x12,gx12,hE⟩:=bO hE;refine SH (am Z8.c (TK rfl) rfl (TK rfl) (TK rfl) gx12) ?_;refine hq (H.set tk1 (some (.tok 3 x12.l.length))) ?_;refine S As (S As (S As (nil ?_)));refine AWp.dropTok 2 rfl ?_;refine AWp.ret ?_;repeat (first|refine xBlock_ret ?_|refine xThen_ret ?_)
 obtain rfl:=oJ hE;refine retQ.retF H rfl ⟨rfl,rfl⟩ ?_
 first|exact Heap.sub_set htk1|(simp only [Heap.set_set]; exact Heap.sub_set htk1)
def Tryz.lay77_ren:Go.Shelf.Ren:=⟨fun|35=>77|n=>n,fun|22=>35|23=>3|3=>3|4=>4|0=>0|n=>n,fun|n=>n⟩
theorem Tryz.lay77:Go.Proofs.SlLaysE.n35 Tryz.prog Tryz.lay77_ren:={
 mixed:=by kernel_rfl
 f35:=⟨Tryz.f77.name,by decide,Tryz.func77.trans (congrArg some (by kernel_rfl))⟩
 t0:=Tryz.underlying0
 a0:=Tryz.isAgg0
 z0:=Tryz.sizeOf0
 v0:=Tryz.zeroValue0
 t3:=Tryz.underlying3
 a3:=Tryz.isAgg3
 z3:=Tryz.sizeOf3
 v3:=Tryz.zeroValue3
 t4:=Tryz.underlying4
 a4:=Tryz.isAgg4
 z4:=Tryz.sizeOf4
 v4:=Tryz.zeroValue4
 t22:=Tryz.underlying35
 a22:=Tryz.isAgg35
 z22:=Tryz.sizeOf35
 v22:=Tryz.zeroValue35
 a23:=Tryz.isAgg3
 z23:=Tryz.sizeOf3 }
theorem Z125_walk {s:Sl Int}{H:Heap}{id m:Nat}{nl:Bool}(hH:H id=some (.arr 1 (s.l.map (intE .i64)))) (hm:m=s.l.length):AC Tryz.prog 77 [.d (.arr 1 id nl m)] H fun r h'=>r=.tup []/\h'=H.set id (some (.arr 1 ((Sl.rev s).l.map (intE .i64)))) :=
 revI_calls Tryz.lay77 hH hm rfl
end Go.Proofs

namespace Go.Proofs
open Go Go.Ab
open AOps Cert AWp Keeps KeepsT
variable {lou:Lou}
def Z154_j22  (s4_23:(Sl Z8)) (y24_l0:TRef) (y25_l1:TRef):Option (TRef×Int):=(s4_23.l[0]?).bind fun x28=>bif (!decide (x28.FKind=(5:Int))) then(some ((TRef.mk ([]:Bs) (Sl.nil:Sl Int)),(3:Int))) else(bif (decide ((24:Int)<((y25_l1.FWraps.l.length:Nat):Int))) then(some ((TRef.mk ([]:Bs) (Sl.nil:Sl Int)),(5:Int))) else((some (Sl.rev y25_l1.FWraps)).bind fun x37=>some ((TRef.mk y25_l1.FName x37),(0:Int))))
def Z154_j44 (s8_41:Int) (y42_l0:TRef) (k_next_39:(Sl Z8)->Int->TRef->TRef->Option (TRef×Int)) (s4_45:(Sl Z8)) (y46_l1:TRef):Option (TRef×Int):=bif (decide (s8_41=(0:Int))) then(Z154_j22   s4_45 y42_l0 y46_l1) else((s4_45.l[0]?).bind fun x52=>guardO (!(!decide (x52.FKind=(1:Int)))) (s4_45.l[0]?) Z8.zero fun x53=>bif ((!decide (x52.FKind=(1:Int)))||(!(x53.FText==([93]:Bs)))) then(some ((TRef.mk ([]:Bs) (Sl.nil:Sl Int)),(3:Int))) else((appC 8 y46_l1.FWraps (⟨false,[(2:Int)]⟩:Sl Int)).bind fun x56=>(partC s4_45 (some (1:Int)) none).bind fun x57=>(subC s8_41 (1:Int)).bind fun x58=>k_next_39 x57 x58 y42_l0 (TRef.mk y46_l1.FName x56)))
def Z154_l39 :Nat->(Sl Z8)->Int->TRef->TRef->Option (TRef×Int)
 | 0,_,_,_,_=>none
 | n39+1,s4_40,s8_41,y42_l0,y43_l1=>(s4_40.l[0]?).bind fun x60=>guardO ((decide (x60.FKind=(1:Int)))) (s4_40.l[0]?) Z8.zero fun x61=>bif ((decide (x60.FKind=(1:Int)))&&((x61.FText==([33]:Bs)))) then((appC 8 y43_l1.FWraps (⟨false,[(1:Int)]⟩:Sl Int)).bind fun x63=>(partC s4_40 (some (1:Int)) none).bind fun x64=>Z154_j44 s8_41 y42_l0 ((Z154_l39  n39)) x64 (TRef.mk y43_l1.FName x63)) else(Z154_j44 s8_41 y42_l0 ((Z154_l39  n39)) s4_40 y43_l1)
def Z154_j11  (s4_12:(Sl Z8)) (s8_13:Int):Option (TRef×Int):=(s4_12.l[0]?).bind fun x16=>bif (!decide (x16.FKind=(2:Int))) then(some ((TRef.mk ([]:Bs) (Sl.nil:Sl Int)),(3:Int))) else((s4_12.l[0]?).bind fun x20=>(partC s4_12 (some (1:Int)) none).bind fun x21=>Z154_l39 F0 x21 s8_13 TRef.zero (TRef.mk x20.FText TRef.zero.FWraps))
def Z154_l65 :Nat->(Sl Z8)->Int->Option (TRef×Int)
 | 0,_,_=>none
 | n65+1,s4_66,s8_67=>(s4_66.l[0]?).bind fun x70=>guardO ((decide (x70.FKind=(1:Int)))) (s4_66.l[0]?) Z8.zero fun x71=>bif ((decide (x70.FKind=(1:Int)))&&((x71.FText==([91]:Bs)))) then((addC s8_67 (1:Int)).bind fun x73=>(partC s4_66 (some (1:Int)) none).bind fun x74=>(Z154_l65  n65) x74 x73) else(Z154_j11   s4_66 s8_67)
def Z154 (a0:Bs):Option (TRef×Int):=(Z143 a0).bind fun x3=>bif (!decide (x3.2.2=(0:Int))) then(some ((TRef.mk ([]:Bs) (Sl.nil:Sl Int)),x3.2.2)) else(Z154_l65 F0 x3.1 (0:Int))
theorem Z154_walk {a0:Bs}{r:TRef×Int}(hE:Z154 a0=some r) (H:Heap) :AC Tryz.prog 42 [.d (.str a0)] H fun v h'=>v=.tup [.agg (TRef.c r.1),.d (.int .i64 r.2)]/\h'=H:=by
 unfold Z154 at hE;refine AC.oW 106 [.cell 2 37,.tmp 3] Tryz.call42 Tryz.func42 ?_;refine seqR ?_;refine Sl ?_;refine S As (nil ?_);refine seqR (S Mv ?_);obtain⟨x3,gx3,hE⟩:=bO hE;refine Sc rfl rfl (Z143_walk gx3) ?_;refine S Mv (S EX (S EX (S EX (S As (S As (S As (nil ?_)))))));refine seqK fun K4 hK4=>?_;refine seqR (S Mv (S BI (nil ?_)));refine cE hE (fun hc6 hE=>?_) (fun hc6 hE=>?_)
 ·refine seqR (S BU (S Mv ?_));refine Sf ?_;refine S As (nil ?_);exact rt hE
 refine sk hK4 ?_;clear hK4 K4;refine seqR ?_;refine Sl ?_;refine AOps.arrO 1 fun tk7_9 htk7_9=>?_;refine AOps.relocal 1 _ rfl (fun j w cs hh hx=>arr_cell 1 1 1 hh (t:=tk7_9) hpG hx rfl) ?_;refine nil ?_;refine seqR (S As (nil ?_));refine seqJH (TA 2 (TA 7 kN)) (fun(z:(Sl Z8)×Int)=>[(4,.a (.d (Sl.d 3 Z8.c none z.1))),(8,.a (.d (.int .i64 z.2)))]) (fun z=>(H.set tk7_9 (some (.arr 1 [])))) (fun z=>Z154_j11 z.1 z.2=some r) ?_ ?_
 ·intro K11 hK11;refine block ?_;refine loopH (TA 2 (TA 7 kN)) (fun(z:Nat×(Sl Z8)×Int)=>[(4,.a (.d (Sl.d 3 Z8.c none z.2.1))),(8,.a (.d (.int .i64 z.2.2)))]) (fun z=>(H.set tk7_9 (some (.arr 1 [])))) (fun z=>z.1) (fun z=>Z154_l65 z.1 z.2.1 z.2.2=some r) (F0,x3.1,(0:Int)) hE wA ?_;rintro ⟨n65,s4_66,s8_67⟩ hE K65 hK65;try dsimp only at hE
  cases n65 with
  | zero=>cases hE
  | succ n65 =>
    rw [Z154_l65] at hE;refine seqK fun K68 hK68=>?_;refine seqR (S Mv ?_);obtain⟨x70,gx70,hE⟩:=bO hE;refine S (ix Z8.c 0 gx70) (S Fv (S Ld (S BI (S Mv (G0 Mv ?_)))));obtain⟨x71,gx71,hE⟩:=gO hE;refine gC rfl rfl (fun hC=>ungdA (k:=25) rfl (idxMn (f:=Z8.c) (n:=0) (TK rfl) rfl (TK rfl) rfl rfl rfl (gx71 hC))) rfl ?_;refine G1 26 rfl Fv ?_;refine G1 27 rfl Ld ?_;refine G1 28 rfl BS ?_;refine S PA (nil ?_)
    refine cE hE (fun hc72 hE=>?_) (fun hc72 hE=>?_)
    ·refine sk hK68 ?_;clear hK68 K68;refine block ?_;refine AWp.draw rfl ?_;refine Sd Mv ?_;obtain⟨x73,gx73,hE⟩:=bO hE;refine DOps.s0 (addM rfl rfl gx73) rfl ?_;refine Sd Mv ?_;obtain⟨x74,gx74,hE⟩:=bO hE;refine DOps.s0 (partM (f:=Z8.c) (l:=(some (1:Int))) (r:=none) (TK rfl) rfl (TK rfl) rfl rfl rfl trivial gx74) rfl ?_;refine Sd As (Sd As ?_);refine DOps.nil (by decide +kernel) ?_;exact hK65 _ (n65,x74,x73) wA hE (nS _)
    refine AWp.exit ?_;exact hK11 _ (s4_66,s8_67) wA hE
 rintro ⟨s4_12,s8_13⟩ hE;try dsimp only at hE
 unfold Z154_j11 at hE;refine seqK fun K14 hK14=>?_;refine seqR (S Mv ?_);obtain⟨x16,gx16,hE⟩:=bO hE;refine S (ix Z8.c 0 gx16) (S Fv (S Ld (S BI (nil ?_))));refine cE hE (fun hc17 hE=>?_) (fun hc17 hE=>?_)
 ·refine seqR (S BU ?_);refine Sf ?_;refine S As (nil ?_);refine AWp.ret ?_;repeat (first|refine xBlock_ret ?_|refine xThen_ret ?_)
  obtain rfl:=oJ hE;refine retQ.retF H rfl ⟨rfl,rfl⟩ ?_
  first|exact Heap.sub_set htk7_9|(simp only [Heap.set_set]; exact Heap.sub_set htk7_9)
 refine sk hK14 ?_;clear hK14 K14;refine AWp.seqD (Sd Mv ?_);obtain⟨x20,gx20,hE⟩:=bO hE;refine Sd (ix Z8.c 0 gx20) (Sd Fv (Sd Ld (Sd Mv ?_)));obtain⟨x21,gx21,hE⟩:=bO hE;refine DOps.s0 (partM (f:=Z8.c) (l:=(some (1:Int))) (r:=none) (TK rfl) rfl (TK rfl) rfl rfl rfl trivial gx21) rfl ?_;refine Sd FL ?_;refine DOps.sLn (storeL1 (TK rfl) rfl rfl rfl rfl (by repeat (first|exact SetAt.zero|apply SetAt.succ)) (by repeat (first|exact SetAt.zero|apply SetAt.succ))) ?_
 refine Sd As ?_;refine DOps.nil (by decide +kernel) ?_;refine seqJ (TA 2 (TA 7 kN)) (fun(z:(Sl Z8)×TRef×TRef)=>[(4,.a (.d (Sl.d 3 Z8.c none z.1)))]) (fun z=>[TRef.c z.2.1,(strE z.2.2.FName++[.arr 1 tk7_9 z.2.2.FWraps.nl z.2.2.FWraps.l.length])]) (fun z=>(H.set tk7_9 (some (.arr 1 (z.2.2.FWraps.l.map (intE .i64)))))) (fun z=>Z154_j22 z.1 z.2.1 z.2.2=some r) ?_ ?_
 ·intro K22 hK22;refine block ?_;refine loopO (TA 2 (TA 7 kN)) (fun(z:Nat×(Sl Z8)×Int×TRef×TRef)=>[(4,.a (.d (Sl.d 3 Z8.c none z.2.1))),(8,.a (.d (.int .i64 z.2.2.1)))]) (fun z=>[TRef.c z.2.2.2.1,(strE z.2.2.2.2.FName++[.arr 1 tk7_9 z.2.2.2.2.FWraps.nl z.2.2.2.2.FWraps.l.length])]) (fun z=>(H.set tk7_9 (some (.arr 1 (z.2.2.2.2.FWraps.l.map (intE .i64)))))) (fun z=>z.1) (fun z=>Z154_l39 z.1 z.2.1 z.2.2.1 z.2.2.2.1 z.2.2.2.2=some r) (F0,x21,s8_13,TRef.zero,(TRef.mk x20.FText TRef.zero.FWraps)) hE wA ?_
  rintro ⟨n39,s4_40,s8_41,y42_l0,y43_l1⟩ hE K39 hK39;try dsimp only at hE
  cases n39 with
  | zero=>cases hE
  | succ n39 =>
    rw [Z154_l39] at hE;refine block ?_;refine seqJ (TA 2 (TA 7 (TA 8 kN))) (fun(z:(Sl Z8)×TRef)=>[(4,.a (.d (Sl.d 3 Z8.c none z.1)))]) (fun z=>[TRef.c y42_l0,(strE z.2.FName++[.arr 1 tk7_9 z.2.FWraps.nl z.2.FWraps.l.length])]) (fun z=>(H.set tk7_9 (some (.arr 1 (z.2.FWraps.l.map (intE .i64)))))) (fun z=>Z154_j44 s8_41 y42_l0 ((Z154_l39 n39)) z.1 z.2=some r) ?_ ?_
    ·intro K44 hK44;refine seqR (S Mv ?_);obtain⟨x60,gx60,hE⟩:=bO hE;refine S (ix Z8.c 0 gx60) (S Fv (S Ld (S BI (S Mv (G0 Mv ?_)))));obtain⟨x61,gx61,hE⟩:=gO hE;refine gC rfl rfl (fun hC=>ungdA (k:=54) rfl (idxMn (f:=Z8.c) (n:=0) (TK rfl) rfl (TK rfl) rfl rfl rfl (gx61 hC))) rfl ?_;refine G1 55 rfl Fv ?_;refine G1 56 rfl Ld ?_;refine G1 57 rfl BS ?_;refine S PA (nil ?_);refine cE hE (fun hc62 hE=>?_) (fun hc62 hE=>?_)
     ·refine AWp.draw rfl ?_;refine Sd FL (Sd LL (Sd BV ?_));obtain⟨x63,gx63,hE⟩:=bO hE;refine DOps.sH (appR (f:=(intE .i64)) (s:=y43_l1.FWraps) (TK rfl) rfl (TK rfl) (TK rfl) ⟨_,rfl⟩ rfl rfl rfl rfl rfl rfl hpG (by first|rfl|simp [Sl.setL,Sl.nil,sortL_len]) rfl gx63) rfl ?_;refine DOps.Dh (H.set tk7_9 (some (.arr 1 (x63.l.map (intE .i64))))) ?_;refine Sd Mv ?_;obtain⟨x64,gx64,hE⟩:=bO hE;refine DOps.s0 (partM (f:=Z8.c) (l:=(some (1:Int))) (r:=none) (TK rfl) rfl (TK rfl) rfl rfl rfl trivial gx64) rfl ?_
      refine Sd FL ?_;refine DOps.sLn (storeL1 (TK rfl) rfl rfl rfl rfl (by repeat (first|exact SetAt.zero|apply SetAt.succ)) (by repeat (first|exact SetAt.zero|apply SetAt.succ))) ?_;refine Sd As ?_;refine DOps.nil (by decide +kernel) ?_;exact hK44 _ (x64,(TRef.mk y43_l1.FName x63)) wA hE
     refine AWp.skip ?_;exact hK44 _ (s4_40,y43_l1) wA hE
    rintro ⟨s4_45,y46_l1⟩ hE;try dsimp only at hE
    unfold Z154_j44 at hE;refine seqK fun K47 hK47=>?_;refine seqR (S Mv (S BI (nil ?_)));refine cE hE (fun hc49 hE=>?_) (fun hc49 hE=>?_)
    ·refine AWp.exit ?_;exact hK22 _ (s4_45,y42_l0,y46_l1) wA hE
    refine sk hK47 ?_;clear hK47 K47;refine seqK fun K50 hK50=>?_;refine seqR (S Mv ?_);obtain⟨x52,gx52,hE⟩:=bO hE;refine S (ix Z8.c 0 gx52) (S Fv (S Ld (S BI (S Mv (G0 Mv ?_)))));obtain⟨x53,gx53,hE⟩:=gO hE;refine gC rfl rfl (fun hC=>ungdA (k:=75) rfl (idxMn (f:=Z8.c) (n:=0) (TK rfl) rfl (TK rfl) rfl rfl rfl (gx53 hC))) rfl ?_;refine G1 76 rfl Fv ?_;refine G1 77 rfl Ld ?_;refine G1 78 rfl BS ?_;refine S PO (nil ?_)
    refine cE hE (fun hc54 hE=>?_) (fun hc54 hE=>?_)
    ·refine seqR (S BU ?_);refine Sf ?_;refine S As (nil ?_);refine AWp.ret ?_;repeat (first|refine xBlock_ret ?_|refine xThen_ret ?_)
     obtain rfl:=oJ hE;refine retQ.retF H rfl ⟨rfl,rfl⟩ ?_
     first|exact Heap.sub_set htk7_9|(simp only [Heap.set_set]; exact Heap.sub_set htk7_9)
    refine sk hK50 ?_;clear hK50 K50;refine AWp.draw rfl ?_;refine Sd FL (Sd LL (Sd BV ?_));obtain⟨x56,gx56,hE⟩:=bO hE;refine DOps.sH (appR (f:=(intE .i64)) (s:=y46_l1.FWraps) (TK rfl) rfl (TK rfl) (TK rfl) ⟨_,rfl⟩ rfl rfl rfl rfl rfl rfl hpG (by first|rfl|simp [Sl.setL,Sl.nil,sortL_len]) rfl gx56) rfl ?_;refine DOps.Dh (H.set tk7_9 (some (.arr 1 (x56.l.map (intE .i64))))) ?_;refine Sd Mv ?_;obtain⟨x57,gx57,hE⟩:=bO hE
    refine DOps.s0 (partM (f:=Z8.c) (l:=(some (1:Int))) (r:=none) (TK rfl) rfl (TK rfl) rfl rfl rfl trivial gx57) rfl ?_;refine Sd Mv ?_;obtain⟨x58,gx58,hE⟩:=bO hE;refine DOps.s0 (subM rfl rfl gx58) rfl ?_;refine Sd FL ?_;refine DOps.sLn (storeL1 (TK rfl) rfl rfl rfl rfl (by repeat (first|exact SetAt.zero|apply SetAt.succ)) (by repeat (first|exact SetAt.zero|apply SetAt.succ))) ?_;refine Sd As (Sd As ?_)
    refine DOps.nil (by decide +kernel) ?_;exact hK39 _ (n39,x57,x58,y42_l0,(TRef.mk y46_l1.FName x56)) wA hE (nS _)
 rintro ⟨s4_23,y24_l0,y25_l1⟩ hE;try dsimp only at hE
 unfold Z154_j22 at hE;refine seqK fun K26 hK26=>?_;refine seqR (S Mv ?_);obtain⟨x28,gx28,hE⟩:=bO hE;refine S (ix Z8.c 0 gx28) (S Fv (S Ld (S BI (nil ?_))));refine cE hE (fun hc29 hE=>?_) (fun hc29 hE=>?_)
 ·refine seqR (S BU ?_);refine Sf ?_;refine S As (nil ?_);refine AWp.ret ?_;repeat (first|refine xBlock_ret ?_|refine xThen_ret ?_)
  obtain rfl:=oJ hE;refine retQ.retF H rfl ⟨rfl,rfl⟩ ?_
  first|exact Heap.sub_set htk7_9|(simp only [Heap.set_set]; exact Heap.sub_set htk7_9)
 refine sk hK26 ?_;clear hK26 K26;refine seqK fun K31 hK31=>?_;refine seqR (S FL (S LL ?_));refine AOps.sLenR (f:=(intE .i64)) (l:=y25_l1.FWraps.l) (TK rfl) rfl rfl rfl hpG (by first|rfl|simp [Sl.setL,Sl.nil,sortL_len]) rfl fun hL33=>?_;refine S BI (nil ?_);refine cE hE (fun hc34 hE=>?_) (fun hc34 hE=>?_)
 ·refine seqR (S BU ?_);refine Sf ?_;refine S As (nil ?_);refine AWp.ret ?_;repeat (first|refine xBlock_ret ?_|refine xThen_ret ?_)
  obtain rfl:=oJ hE;refine retQ.retF H rfl ⟨rfl,rfl⟩ ?_
  first|exact Heap.sub_set htk7_9|(simp only [Heap.set_set]; exact Heap.sub_set htk7_9)
 refine sk hK31 ?_;clear hK31 K31;refine seqR (S FL (S LL ?_));obtain⟨x37,gx37,hE⟩:=bO hE;have ex37:=oJ gx37;refine sH (callH rfl rfl (Z125_walk (s:=y25_l1.FWraps) hpG (by first|rfl|simp [Sl.setL,Sl.nil,sortL_len]))) rfl ?_;refine AOps.heq (h':=(H.set tk7_9 (some (.arr 1 (x37.l.map (intE .i64)))))) (by subst ex37; exact(by first|rfl|(rw [Heap.set_set]; rfl)|(funext n_; simp only [Heap.set]; (repeat' split)<;>first|rfl|(exfalso; simp_all; done)|(simp_all; done)))) ?_
 refine AOps.relocal 1 (strE (TRef.mk y25_l1.FName x37).FName++[.arr 1 tk7_9 (TRef.mk y25_l1.FName x37).FWraps.nl (TRef.mk y25_l1.FName x37).FWraps.l.length]) rfl (fun j w cs hh hx=>by subst ex37; first|exact hx|simpa [Sl.rev] using hx) ?_;refine nil ?_;refine seqK fun K38 hK38=>?_;refine AWp.frzL 1 1 tk7_9 rfl rfl hpG (by first|rfl|(simp [Sl.setL,Sl.nil,sortL_len]; done)|(subst_vars; first|rfl|(simp [Sl.setL,Sl.nil,sortL_len]; done))) ?_
 refine AWp.heqA (h':=H) (by first|rfl|(rw [Heap.set_set]; rfl)|(funext n_; simp only [Heap.set]; (repeat' split)<;>first|rfl|(exfalso; simp_all; done)|(simp_all; done))) ?_;refine region ?_;refine S LL ?_;refine Sf ?_;refine S As (nil ?_);refine hK38 _ ?_;clear hK38 K38;exact rt hE
def Tryz.lay171_ren:Go.Shelf.Ren:=⟨fun|10=>171|6=>189|n=>n,fun|22=>35|23=>3|25=>184|3=>3|4=>4|0=>0|n=>n,fun|n=>n⟩
theorem Tryz.lay171:Go.Proofs.SlLaysH.n10 Tryz.prog Tryz.lay171_ren:={
 mixed:=by kernel_rfl
 f6:=⟨Tryz.f189.name,by decide,Tryz.func189.trans (congrArg some (by kernel_rfl))⟩
 f10:=⟨Tryz.f171.name,by decide,Tryz.func171.trans (congrArg some (by kernel_rfl))⟩
 t0:=Tryz.underlying0
 a0:=Tryz.isAgg0
 z0:=Tryz.sizeOf0
 v0:=Tryz.zeroValue0
 t3:=Tryz.underlying3
 a3:=Tryz.isAgg3
 z3:=Tryz.sizeOf3
 v3:=Tryz.zeroValue3
 t4:=Tryz.underlying4
 a4:=Tryz.isAgg4
 z4:=Tryz.sizeOf4
 v4:=Tryz.zeroValue4
 t22:=Tryz.underlying35
 a22:=Tryz.isAgg35
 z22:=Tryz.sizeOf35
 v22:=Tryz.zeroValue35
 a23:=Tryz.isAgg3
 z23:=Tryz.sizeOf3
 t25:=Tryz.underlying184
 a25:=Tryz.isAgg184
 z25:=Tryz.sizeOf184
 v25:=Tryz.zeroValue184 }
theorem Z121_walk {s:Sl Int}{f:Int->Option Bool}{g:Nat}(ht:∀x,∃z,f x=some z) (eg:∀args w,(callFunc g args).run Tryz.prog w=.ok (.enter g args) w) (hg:∀x z w,f x=some z->Calls Tryz.prog g #[.int .i64 x] w fun e w'=>e=.returned (.bool z)/\w'=w)
  {H:Heap}{id m:Nat}{nl:Bool}(hH:H id=some (.arr 1 (s.l.map (intE .i64)))) (hm:m=s.l.length) (hn:nl=s.nl):AC Tryz.prog 171 [.d (.arr 1 id nl m),.d (.func g [])] H fun r h'=>r=.a (.d (Sl.d 1 (intE .i64) none (delL f s)))/\h'=H.set id none :=
 delI_calls Tryz.lay171 Tryz.zeroValue3 ht eg hg hH hm hn rfl
def Z118 (a0:(Sl Int)):Option (Sl Int):=bif a0.nl then(some (Sl.nil:Sl Int)) else((appC 8 (⟨false,[]⟩:Sl Int) a0).bind fun x7=>some x7)
theorem Z118_walk {a0:Sl Int}{w0:Option Nat}{r:Sl Int}(hE:Z118 a0=some r) (H:Heap) :AC Tryz.prog 172 [.d (Sl.d 1 (intE .i64) w0 a0)] H fun v h'=>v=.a (.d (Sl.d 1 (intE .i64) none r))/\h'=H:=by
 unfold Z118 at hE;refine AC.oW 8 [.tmp 2] Tryz.call172 Tryz.func172 ?_;refine seqR ?_;refine s0 (assignNil (k':=1) rfl) rfl ?_;refine nil ?_;refine seqK fun K2 hK2=>?_;refine seqR (S Mv ?_);refine s0 (eqNil (TK rfl) rfl rfl) rfl ?_;refine nil ?_;refine cE hE (fun hc4 hE=>?_) (fun hc4 hE=>?_)
 ·refine seqR ?_;refine s0 (assignNil (k':=1) rfl) rfl ?_;refine nil ?_;exact rt hE
 refine sk hK2 ?_;clear hK2 K2;refine seqR ?_;refine s0 (buildSliceF (TK rfl) rfl (TK rfl) rfl rfl rfl rfl rfl rfl) rfl ?_;refine S Mv ?_;obtain⟨x7,gx7,hE⟩:=bO hE;refine s0 (appFM (f:=(intE .i64)) (TK rfl) rfl (TK rfl) (TK rfl) ⟨_,rfl⟩ rfl rfl (by decide) rfl rfl rfl (by intro q h; cases h<;>decide) rfl rfl gx7) rfl ?_;refine S As (nil ?_);exact rt hE
theorem Z118_arr {a0:Sl Int}{w0:Option Nat}{ar0:Nat}{r:Sl Int}(hE:Z118 a0=some r) (H:Heap) (har0:H ar0=some (.arr 1 [])) :AC Tryz.prog 172 [.d (Sl.d 1 (intE .i64) w0 a0)] H fun v h'=>v=.a (.d (.arr 1 ar0 r.nl r.l.length))/\h'=H.set ar0 (some (.arr 1 (r.l.map (intE .i64)))):=by
 unfold Z118 at hE;refine AC.oW 8 [.tmp 2] Tryz.call172 Tryz.func172 ?_;refine AWp.heqA (h':=(H.set ar0 (some (.arr 1 [])))) (by funext n_; simp only [Heap.set]; (repeat' split)<;>simp_all) ?_;refine seqR ?_;refine s0 (assignNil (k':=1) rfl) rfl ?_;refine AOps.nilR 2 1 ar0 rfl hpG ?_;refine nil ?_;refine seqK fun K2 hK2=>?_;refine seqR (S Mv ?_);refine s0 (eqNil (TK rfl) rfl rfl) rfl ?_;refine nil ?_
 refine cE hE (fun hc4 hE=>?_) (fun hc4 hE=>?_)
 ·refine seqR ?_;refine s0 (assignNil (k':=1) rfl) rfl ?_;refine AOps.nilR 2 1 ar0 rfl hpG ?_;refine nil ?_;exact rt hE
 refine sk hK2 ?_;clear hK2 K2;refine seqR ?_;refine s0 (buildSliceF (TK rfl) rfl (TK rfl) rfl rfl rfl rfl rfl rfl) rfl ?_;refine AOps.fullR 5 1 ar0 rfl hpG ?_;refine S Mv ?_;obtain⟨x7,gx7,hE⟩:=bO hE;refine sH (appR (f:=(intE .i64)) (s:=(⟨false,[]⟩:Sl Int)) (TK rfl) rfl (TK rfl) (TK rfl) ⟨_,rfl⟩ rfl rfl rfl rfl rfl rfl hpG (by first|rfl|simp [Sl.setL,Sl.nil,sortL_len]) rfl gx7) rfl ?_;refine hq (H.set ar0 (some (.arr 1 (x7.l.map (intE .i64))))) ?_
 refine S As (nil ?_);exact rt hE
def Z160 (a0:Int):Option Bool:=some (decide (a0=(1:Int)))
theorem Z160_tot (x:Int):∃z,Z160 x=some z:=⟨_,rfl⟩
theorem Z160_enter (args:Array Value) (w:World):(callFunc 173 args).run Tryz.prog w=.ok (.enter 173 args) w:=Tryz.call173 args w
theorem Z160_calls (x:Int) (z:Bool) (w:World) (h:Z160 x=some z):Calls Tryz.prog 173 #[.int .i64 x] w fun e w'=>e=.returned (.bool z)/\w'=w:=by
 obtain rfl:=oJ h
 go_enter Tryz.func173,Tryz.ntmps173
 go_wp2
 go_ret
 exact⟨rfl,rfl⟩
def Z159 (a0:(Sl Int)):Option (Sl Int):=(Z118 a0).bind fun x3=>(some (delL Z160 x3)).bind fun x4=>some x4
theorem Z159_walk {a0:Sl Int}{w0:Option Nat}{r:Sl Int}(hE:Z159 a0=some r) (H:Heap) :AC Tryz.prog 142 [.d (Sl.d 1 (intE .i64) w0 a0)] H fun v h'=>v=.a (.d (Sl.d 1 (intE .i64) none r))/\h'=H:=by
 unfold Z159 at hE;refine AC.oW 6 [.tmp 2] Tryz.call142 Tryz.func142 ?_;refine AWp.arrO 1 fun ar1 har1=>?_;refine seqR ?_;refine s0 (assignNil (k':=1) rfl) rfl ?_;refine nil ?_;refine seqR (S Mv ?_);obtain⟨x3,gx3,hE⟩:=bO hE;refine sH (callH rfl rfl (Z118_arr gx3 _ hpG)) rfl ?_;refine hq (H.set ar1 (some (.arr 1 (x3.l.map (intE .i64))))) ?_;obtain⟨x4,gx4,hE⟩:=bO hE;have ex4:=oJ gx4
 refine sH (callH rfl rfl (Z121_walk (s:=x3) (f:=Z160) Z160_tot Z160_enter Z160_calls hpG (by first|rfl|simp [Sl.setL,Sl.nil,sortL_len]) rfl)) rfl ?_;refine hq H ?_;rw [ex4];refine S As (nil ?_);exact rt hE
def Z157 (a0:TRef) (a1:TRef):Option Bool:=guardO (((a0.FName==a1.FName))) (Z159 a0.FWraps) (Sl.nil:Sl Int) fun x3=>guardO (((a0.FName==a1.FName))) (Z159 a1.FWraps) (Sl.nil:Sl Int) fun x4=>guardO (((a0.FName==a1.FName))) (Z123 x3 x4) false fun x5=>some (((a0.FName==a1.FName))&&x5)
theorem Z157_walk {a0 a1:TRef}{r:Bool}(hE:Z157 a0 a1=some r) (H:Heap) :AC Tryz.prog 110 [.agg (TRef.c a0),.agg (TRef.c a1)] H fun v h'=>v=.a (.d (.bool r))/\h'=H:=by
 unfold Z157 at hE;refine AC.oW 19 [.tmp 4] Tryz.call110 Tryz.func110 ?_;refine seqR (S BX (S BX (S As (nil ?_))));refine AWp.seqD (Sd Fv (Sd Ld (Sd Fv (Sd Ld (Sd BS (Sd Mv (G0d Fv ?_)))))));refine G1d 11 rfl Ld ?_;obtain⟨x3,gx3,hE⟩:=gO hE;refine Gc1d 12 rfl rfl rfl rfl rfl (fun hC=>Z159_walk (gx3 hC)) ?_;refine G0d Fv ?_;refine G1d 14 rfl Ld ?_;obtain⟨x4,gx4,hE⟩:=gO hE;refine Gc1d 15 rfl rfl rfl rfl rfl (fun hC=>Z159_walk (gx4 hC)) ?_
 obtain⟨x5,gx5,hE⟩:=gO hE;refine Gc2d 13 16 rfl rfl rfl rfl rfl rfl (fun hC=>Z123_walk (gx5 hC)) ?_;refine Sd PA (Sd As ?_);refine DOps.nil (by decide +kernel) ?_;exact rt hE
def Z152 (a0:TRef):Option Bool:=guardO ((decide ((0:Int)<((a0.FWraps.l.length:Nat):Int)))) (a0.FWraps.l[0]?) (0:Int) fun x4=>some ((decide ((0:Int)<((a0.FWraps.l.length:Nat):Int)))&&(decide (x4=(1:Int))))
theorem Z152_walk {a0:TRef}{r:Bool}(hE:Z152 a0=some r) (H:Heap) :AC Tryz.prog 111 [.agg (TRef.c a0)] H fun v h'=>v=.a (.d (.bool r))/\h'=H:=by
 unfold Z152 at hE;refine AC.oW 14 [.tmp 2] Tryz.call111 Tryz.func111 ?_;refine seqR (S BX (S As (nil ?_)));refine seqR (S Fv (S Ld ?_));refine sLen (f:=(intE .i64)) (s:=a0.FWraps) (TK rfl) rfl rfl rfl rfl fun hL3=>?_;refine S BI (S Mv (G0 Fv ?_));refine G1 8 rfl Ld ?_;obtain⟨x4,gx4,hE⟩:=gO hE;refine gC rfl rfl (fun hC=>ungdA (k:=9) rfl (idxMn (f:=(intE .i64)) (n:=0) (TK rfl) rfl (TK rfl) rfl rfl rfl (gx4 hC))) rfl ?_
 refine G1 10 rfl Ld ?_;refine G1 11 rfl BI ?_;refine S PA (S As (nil ?_));exact rt hE
def Z153_j3 (a0:TRef)  (s3_4:(Sl Int)):Option TRef:=(Z118 s3_4).bind fun x6=>some (TRef.mk a0.FName x6)
def Z153 (a0:TRef):Option TRef:=(Z152 a0).bind fun x8=>bif x8 then((partC a0.FWraps (some (1:Int)) none).bind fun x10=>Z153_j3 a0  x10) else(Z153_j3 a0  a0.FWraps)
theorem Z153_walk {a0 r:TRef}(hE:Z153 a0=some r) (H:Heap) :AC Tryz.prog 144 [.agg (TRef.c a0)] H fun v h'=>v=.a (.agg (TRef.c r))/\h'=H:=by
 unfold Z153 at hE;refine AC.oW 15 [.cell 2 37] Tryz.call144 Tryz.func144 ?_;refine seqR (S BX ?_);refine Sl ?_;refine nil ?_;refine seqR (S Fv (S Ld (S As (nil ?_))));refine seqJH (TA 1 (TA 2 kN)) (fun(z:(Sl Int))=>[(3,.a (.d (Sl.d 1 (intE .i64) none z)))]) (fun z=>H) (fun z=>Z153_j3 a0 z=some r) ?_ ?_
 ·intro K3 hK3;refine seqR (S Ld ?_);obtain⟨x8,gx8,hE⟩:=bO hE;refine Sc rfl rfl (Z152_walk gx8) ?_;refine nil ?_;refine cE hE (fun hc9 hE=>?_) (fun hc9 hE=>?_)
  ·refine region ?_;refine S Mv ?_;obtain⟨x10,gx10,hE⟩:=bO hE;refine s0 (partM (f:=(intE .i64)) (l:=(some (1:Int))) (r:=none) (TK rfl) rfl (TK rfl) rfl rfl rfl trivial gx10) rfl ?_;refine S As (nil ?_);exact hK3 _ x10 wA hE
  refine AWp.skip ?_;exact hK3 _ a0.FWraps wA hE
 rintro s3_4 hE;try dsimp only at hE
 unfold Z153_j3 at hE;refine AWp.seqD (Sd Fv (Sd Ld (Sd Mv ?_)));obtain⟨x6,gx6,hE⟩:=bO hE;refine Scd rfl rfl (Z118_walk gx6) ?_;refine Sd BU ?_;refine DOps.sLn (storeLFA (TK rfl) rfl rfl rfl rfl rfl) ?_;refine DOps.nil (by decide +kernel) ?_;exact rt hE
def Z151 (a0:TRef):Option Bool:=(Z153 a0).bind fun x3=>guardO ((decide ((0:Int)<((x3.FWraps.l.length:Nat):Int)))) (x3.FWraps.l[0]?) (0:Int) fun x6=>some ((decide ((0:Int)<((x3.FWraps.l.length:Nat):Int)))&&(decide (x6=(2:Int))))
theorem Z151_walk {a0:TRef}{r:Bool}(hE:Z151 a0=some r) (H:Heap) :AC Tryz.prog 143 [.agg (TRef.c a0)] H fun v h'=>v=.a (.d (.bool r))/\h'=H:=by
 unfold Z151 at hE;refine AC.oW 16 [.tmp 2] Tryz.call143 Tryz.func143 ?_;refine seqR ?_;refine sL (boxL rfl (by repeat (first|exact Snoc.nil|apply Snoc.cons))) rfl ?_;refine S As (nil ?_);refine seqR (S LL ?_);obtain⟨x3,gx3,hE⟩:=bO hE;refine Sc rfl rfl (Z153_walk gx3) ?_;refine Sf ?_;refine nil ?_;refine seqR (S FL (S LL ?_));refine sLen (f:=(intE .i64)) (s:=x3.FWraps) (TK rfl) rfl rfl rfl rfl fun hL5=>?_
 refine S BI (S Mv (G0 FL ?_));refine gC rfl rfl (fun hC=>ungdLA (k:=10) rfl (loadL (TK rfl) rfl rfl rfl rfl)) rfl ?_;obtain⟨x6,gx6,hE⟩:=gO hE;refine gC rfl rfl (fun hC=>ungdA (k:=11) rfl (idxMn (f:=(intE .i64)) (n:=0) (TK rfl) rfl (TK rfl) rfl rfl rfl (gx6 hC))) rfl ?_;refine G1 12 rfl Ld ?_;refine G1 13 rfl BI ?_;refine S PA (S As (nil ?_));exact rt hE
def Z150 (a0:TRef):Option (TRef×Bool):=(Z151 a0).bind fun x4=>bif (!x4) then(some ((TRef.mk ([]:Bs) (Sl.nil:Sl Int)),false)) else((Z153 a0).bind fun x8=>(partC x8.FWraps (some (1:Int)) none).bind fun x10=>some ((TRef.mk x8.FName x10),true))
theorem Z150_walk {a0:TRef}{r:TRef×Bool}(hE:Z150 a0=some r) (H:Heap) :AC Tryz.prog 112 [.agg (TRef.c a0)] H fun v h'=>v=.tup [.agg (TRef.c r.1),.d (.bool r.2)]/\h'=H:=by
 unfold Z150 at hE;refine AC.oW 15 [.cell 2 37,.tmp 3] Tryz.call112 Tryz.func112 ?_;refine seqR ?_;refine sL (boxL rfl (by repeat (first|exact Snoc.nil|apply Snoc.cons))) rfl ?_;refine Sl ?_;refine S As (nil ?_);refine seqK fun K2 hK2=>?_;refine seqR (S LL ?_);obtain⟨x4,gx4,hE⟩:=bO hE;refine Sc rfl rfl (Z151_walk gx4) ?_;refine S NB (nil ?_);refine cE hE (fun hc5 hE=>?_) (fun hc5 hE=>?_)
 ·refine seqR (S BU ?_);refine Sf ?_;refine S As (nil ?_);exact rt hE
 refine sk hK2 ?_;clear hK2 K2;refine seqR (S LL ?_);obtain⟨x8,gx8,hE⟩:=bO hE;refine Sc rfl rfl (Z153_walk gx8) ?_;refine Sf ?_;refine nil ?_;refine seqR (S FL (S LL ?_));obtain⟨x10,gx10,hE⟩:=bO hE;refine s0 (partM (f:=(intE .i64)) (l:=(some (1:Int))) (r:=none) (TK rfl) rfl (TK rfl) rfl rfl rfl trivial gx10) rfl ?_;refine S FL ?_;refine Sf ?_;refine nil ?_;refine seqR (S LL ?_);refine Sf ?_;refine S As (nil ?_)
 exact rt hE
end Go.Proofs

namespace Go.Proofs
open Go Go.Ab
open AOps Cert AWp Keeps KeepsT
variable {lou:Lou}
def Z158_j14 (y10_l0:TRef) (y11_l1:TRef) (y12_l2:TRef) (k_next_9:TRef->TRef->TRef->TRef->Option (TRef×Bool)) (y15_l3:TRef):Option (TRef×Bool):=(Z150 y10_l0).bind fun x17=>(Z150 y11_l1).bind fun x19=>bif ((!x17.2)||(!x19.2)) then(some (y15_l3,true)) else((appC 8 y15_l3.FWraps (⟨false,[(2:Int)]⟩:Sl Int)).bind fun x25=>k_next_9 x17.1 x19.1 y12_l2 (TRef.mk y15_l3.FName x25))
def Z158_l9 :Nat->TRef->TRef->TRef->TRef->Option (TRef×Bool)
 | 0,_,_,_,_=>none
 | n9+1,y10_l0,y11_l1,y12_l2,y13_l3=>(Z152 y10_l0).bind fun x27=>guardO (x27) (Z152 y11_l1) false fun x28=>bif (x27&&x28) then((appC 8 y13_l3.FWraps (⟨false,[(1:Int)]⟩:Sl Int)).bind fun x30=>Z158_j14 y10_l0 y11_l1 y12_l2 ((Z158_l9  n9)) (TRef.mk y13_l3.FName x30)) else(Z158_j14 y10_l0 y11_l1 y12_l2 ((Z158_l9  n9)) y13_l3)
def Z158 (a0:TRef) (a1:TRef):Option (TRef×Bool):=(Z157 a0 a1).bind fun x4=>bif (!x4) then(some ((TRef.mk ([]:Bs) (Sl.nil:Sl Int)),false)) else(Z158_l9 F0 a0 a1 TRef.zero (TRef.mk a0.FName (Sl.nil:Sl Int)))
theorem Z158_walk {a0 a1:TRef}{r:TRef×Bool}(hE:Z158 a0 a1=some r) (H:Heap) :AC Tryz.prog 78 [.agg (TRef.c a0),.agg (TRef.c a1)] H fun v h'=>v=.tup [.agg (TRef.c r.1),.d (.bool r.2)]/\h'=H:=by
 unfold Z158 at hE;refine AC.oW 54 [.cell 4 37,.tmp 5] Tryz.call78 Tryz.func78 ?_;refine seqR ?_;refine sL (boxL rfl (by repeat (first|exact Snoc.nil|apply Snoc.cons))) rfl ?_;refine sL (boxL rfl (by repeat (first|exact Snoc.nil|apply Snoc.cons))) rfl ?_;refine Sl ?_;refine S As (nil ?_);refine seqK fun K2 hK2=>?_;refine seqR (S LL (S LL ?_));obtain⟨x4,gx4,hE⟩:=bO hE;refine Sc rfl rfl (Z157_walk gx4) ?_
 refine S NB (nil ?_);refine cE hE (fun hc5 hE=>?_) (fun hc5 hE=>?_)
 ·refine seqR (S BU ?_);refine Sf ?_;refine S As (nil ?_);exact rt hE
 refine sk hK2 ?_;clear hK2 K2;refine seqR (S FL (S LL (S BU ?_)));refine Sl ?_;refine AOps.tok 1 fun tk6_8 htk6_8=>?_;refine AOps.relocal 3 _ rfl (fun j w cs hh hx=>tok_cell 1 1 1 hh (t:=tk6_8) hpG hx rfl) ?_;refine Sf ?_;refine AOps.relocal 3 _ rfl (fun j w cs hh hx=>tok_cell 1 1 1 hh (t:=tk6_8) hpG hx rfl) ?_;refine nil ?_;refine block ?_;refine loopO (TA 2 (TA 3 (TA 4 (TA 6 kN)))) (fun(z:Nat×TRef×TRef×TRef×TRef)=>[]) (fun z=>[TRef.c z.2.1,TRef.c z.2.2.1,TRef.c z.2.2.2.1,(strE z.2.2.2.2.FName++[Sl.d 1 (intE .i64) (some tk6_8) z.2.2.2.2.FWraps])]) (fun z=>(H.set tk6_8 (some (.tok 1 z.2.2.2.2.FWraps.l.length)))) (fun z=>z.1) (fun z=>Z158_l9 z.1 z.2.1 z.2.2.1 z.2.2.2.1 z.2.2.2.2=some r) (F0,a0,a1,TRef.zero,(TRef.mk a0.FName (Sl.nil:Sl Int))) hE wA ?_
 rintro ⟨n9,y10_l0,y11_l1,y12_l2,y13_l3⟩ hE K9 hK9;try dsimp only at hE
 cases n9 with
 | zero=>cases hE
 | succ n9 =>
   rw [Z158_l9] at hE;refine block ?_;refine seqJ (TA 2 (TA 3 (TA 4 (TA 6 kN)))) (fun(z:TRef)=>[]) (fun z=>[TRef.c y10_l0,TRef.c y11_l1,TRef.c y12_l2,(strE z.FName++[Sl.d 1 (intE .i64) (some tk6_8) z.FWraps])]) (fun z=>(H.set tk6_8 (some (.tok 1 z.FWraps.l.length)))) (fun z=>Z158_j14 y10_l0 y11_l1 y12_l2 ((Z158_l9 n9)) z=some r) ?_ ?_
   ·intro K14 hK14;refine seqR (S LL ?_);obtain⟨x27,gx27,hE⟩:=bO hE;refine Sc rfl rfl (Z152_walk gx27) ?_;refine S Mv (G0 LL ?_);obtain⟨x28,gx28,hE⟩:=gO hE;refine Gc1 22 rfl rfl rfl rfl rfl (fun hC=>Z152_walk (gx28 hC)) ?_;refine S PA (nil ?_);refine cE hE (fun hc29 hE=>?_) (fun hc29 hE=>?_)
    ·refine region ?_;refine S FL (S LL (S BV ?_));obtain⟨x30,gx30,hE⟩:=bO hE;refine SH (am (intE .i64) (TK rfl) rfl (TK rfl) (TK rfl) gx30) ?_;refine hq (H.set tk6_8 (some (.tok 1 x30.l.length))) ?_;refine S FL ?_;refine Sf ?_;refine nil ?_;exact hK14 _ (TRef.mk y13_l3.FName x30) wA hE
    refine AWp.skip ?_;exact hK14 _ y13_l3 wA hE
   rintro y15_l3 hE;try dsimp only at hE
   unfold Z158_j14 at hE;refine seqR (S LL ?_);obtain⟨x17,gx17,hE⟩:=bO hE;refine Sc rfl rfl (Z150_walk gx17) ?_;refine S Mv (S EX (S EX ?_));refine Sl ?_;refine Sf ?_;refine S As (nil ?_);refine freezeA 7 _ rfl (KA 2 (KA 3 (KA 4 (KA 6 (KA 8 Keeps.nil))))) ?_;refine seqR (S LL ?_);obtain⟨x19,gx19,hE⟩:=bO hE;refine Sc rfl rfl (Z150_walk gx19) ?_;refine S Mv (S EX (S EX ?_));refine Sl ?_;refine Sf ?_
   refine S As (nil ?_);refine freezeA 9 _ rfl (KA 2 (KA 3 (KA 4 (KA 6 (KA 7 (KA 8 (KA 10 Keeps.nil))))))) ?_;refine seqK fun K20 hK20=>?_;refine seqR (S Mv (S NB (S Mv (G0 Mv ?_))));refine G1 43 rfl NB ?_;refine S PO (nil ?_);refine cE hE (fun hc22 hE=>?_) (fun hc22 hE=>?_)
   ·refine seqK fun K23 hK23=>?_;refine AWp.relocal 3 _ rfl (fun j w cs hh hx=>untok_cell 1 hx rfl) ?_;refine region ?_;refine S LL ?_;refine Sf ?_;refine S As (nil ?_);refine hK23 _ ?_;clear hK23 K23;refine AWp.ret ?_;repeat (first|refine xBlock_ret ?_|refine xThen_ret ?_)
    obtain rfl:=oJ hE;refine retQ.retF H rfl ⟨rfl,rfl⟩ ?_
    first|exact Heap.sub_set htk6_8|(simp only [Heap.set_set]; exact Heap.sub_set htk6_8)
   refine sk hK20 ?_;clear hK20 K20;refine seqR (S FL (S LL (S BV ?_)));obtain⟨x25,gx25,hE⟩:=bO hE;refine SH (am (intE .i64) (TK rfl) rfl (TK rfl) (TK rfl) gx25) ?_;refine hq (H.set tk6_8 (some (.tok 1 x25.l.length))) ?_;refine S FL ?_;refine Sf ?_;refine nil ?_;refine AWp.draw rfl ?_;refine Sd Ld (Sd Ld ?_);refine DOps.sLn (storeLFA (TK rfl) rfl rfl rfl rfl rfl) ?_;refine DOps.sLn (storeLFA (TK rfl) rfl rfl rfl rfl rfl) ?_
   refine DOps.nil (by decide +kernel) ?_;exact hK9 _ (n9,x17.1,x19.1,y12_l2,(TRef.mk y15_l3.FName x25)) wA hE (nS _)
def Z149 (a0:TRef) (a1:TRef):Option Bool:=(Z158 a0 a1).bind fun x3=>guardO (x3.2) (Z156 x3.1 a1) false fun x5=>some (x3.2&&x5)
theorem Z149_walk {a0 a1:TRef}{r:Bool}(hE:Z149 a0 a1=some r) (H:Heap) :AC Tryz.prog 43 [.agg (TRef.c a0),.agg (TRef.c a1)] H fun v h'=>v=.a (.d (.bool r))/\h'=H:=by
 unfold Z149 at hE;refine AC.oW 19 [.tmp 4] Tryz.call43 Tryz.func43 ?_;refine seqR (S BX (S BX (S As (nil ?_))));refine seqR (S Ld (S Ld ?_));obtain⟨x3,gx3,hE⟩:=bO hE;refine Sc rfl rfl (Z158_walk gx3) ?_;refine S Mv (S EX (S EX ?_));refine Sl ?_;refine Sf ?_;refine S As (nil ?_);refine freezeA 5 _ rfl (KA 3 (KA 6 Keeps.nil)) ?_;refine seqR (S Mv (S Mv (G0 Ld (G0 Ld ?_))));obtain⟨x5,gx5,hE⟩:=gO hE
 refine Gc2 15 16 rfl rfl rfl rfl rfl rfl (fun hC=>Z156_walk (gx5 hC)) ?_;refine S PA (S As (nil ?_));exact rt hE
def Z9_j2  :Option Bool:=some false
def Z9_j15 (a0:Z2)  (s27_16:Bool):Option Bool:=bif s27_16 then((Z154 a0.FFrom).bind fun x19=>(Z154 a0.FTo).bind fun x21=>guardO (((decide (x19.2=(0:Int)))&&(decide (x21.2=(0:Int))))) (Z149 x19.1 x21.1) false fun x23=>some (((decide (x19.2=(0:Int)))&&(decide (x21.2=(0:Int))))&&x23)) else(Z9_j2   )
def Z9_j9 (a0:Z2)  (s14_10:Bool):Option Bool:=bif s14_10 then((Z135 a0.FTo ([33]:Bs)).bind fun x13=>guardO ((!x13)) (Z132 a0.FTo ([32,61,32]:Bs)) false fun x14=>some ((!x13)&&(!x14))) else(bif (decide (a0.FKind=(9:Int))) then(Z9_j15 a0  (decide (a0.FKind=(9:Int)))) else(Z9_j15 a0  (decide (a0.FKind=(15:Int)))))
def Z9_j5 (a0:Z2)  (s9_6:Bool):Option Bool:=bif s9_6 then(some true) else(bif (decide (a0.FKind=(8:Int))) then(Z9_j9 a0  (decide (a0.FKind=(8:Int)))) else(Z9_j9 a0  (decide (a0.FKind=(14:Int)))))
def Z9 (a0:Z2):Option Bool:=bif (decide (a0.FKind=(2:Int))) then(Z9_j5 a0  (decide (a0.FKind=(2:Int)))) else(bif (decide (a0.FKind=(5:Int))) then(Z9_j5 a0  (decide (a0.FKind=(5:Int)))) else(bif (decide (a0.FKind=(12:Int))) then(Z9_j5 a0  (decide (a0.FKind=(12:Int)))) else(Z9_j5 a0  (decide (a0.FKind=(18:Int))))))
theorem Z9_walk {a0:Z2}{r:Bool}(hE:Z9 a0=some r) (H:Heap) :AC Tryz.prog 16 [.agg (Z2.c a0)] H fun v h'=>v=.a (.d (.bool r))/\h'=H:=by
 unfold Z9 at hE;refine AC.oW 53 [.tmp 2] Tryz.call16 Tryz.func16 ?_;refine seqR (S BX (S As (nil ?_)));refine seqJH kN (fun(z:Unit)=>[]) (fun z=>H) (fun z=>Z9_j2 =some r) ?_ ?_
 ·intro K2 hK2;refine seqR (S Fv (S Ld (nil ?_)));refine block ?_;refine seqJH (TA 1 (TA 8 kN)) (fun(z:Bool)=>[(9,.a (.d (.bool z)))]) (fun z=>H) (fun z=>Z9_j5 a0 z=some r) ?_ ?_
  ·intro K5 hK5;refine seqR (S BI (S As (nil ?_)));refine cE hE (fun hc29 hE=>?_) (fun hc29 hE=>?_)
   ·refine AWp.skip ?_;exact hK5 _ (decide (a0.FKind=(2:Int))) wA hE
   refine seqR (S BI (S As (nil ?_)));refine cE hE (fun hc31 hE=>?_) (fun hc31 hE=>?_)
   ·refine AWp.skip ?_;exact hK5 _ (decide (a0.FKind=(5:Int))) wA hE
   refine seqR (S BI (S As (nil ?_)));refine cE hE (fun hc33 hE=>?_) (fun hc33 hE=>?_)
   ·refine AWp.skip ?_;exact hK5 _ (decide (a0.FKind=(12:Int))) wA hE
   refine region ?_;refine S BI (S As (nil ?_));exact hK5 _ (decide (a0.FKind=(18:Int))) wA hE
  rintro s9_6 hE;try dsimp only at hE
  unfold Z9_j5 at hE;refine cE hE (fun hc7 hE=>?_) (fun hc7 hE=>?_)
  ·refine seqR (S As (nil ?_));exact rt hE
  refine seqJH (TA 1 (TA 8 kN)) (fun(z:Bool)=>[(14,.a (.d (.bool z)))]) (fun z=>H) (fun z=>Z9_j9 a0 z=some r) ?_ ?_
  ·intro K9 hK9;refine seqR (S BI (S As (nil ?_)));refine cE hE (fun hc27 hE=>?_) (fun hc27 hE=>?_)
   ·refine AWp.skip ?_;exact hK9 _ (decide (a0.FKind=(8:Int))) wA hE
   refine region ?_;refine S BI (S As (nil ?_));exact hK9 _ (decide (a0.FKind=(14:Int))) wA hE
  rintro s14_10 hE;try dsimp only at hE
  unfold Z9_j9 at hE;refine cE hE (fun hc11 hE=>?_) (fun hc11 hE=>?_)
  ·refine seqR (S Fv (S Ld ?_));obtain⟨x13,gx13,hE⟩:=bO hE;refine Sc rfl rfl (Z135_walk gx13) ?_;refine S NB (S Mv (G0 Fv ?_));refine G1 22 rfl Ld ?_;obtain⟨x14,gx14,hE⟩:=gO hE;refine Gc1 23 rfl rfl rfl rfl rfl (fun hC=>Z132_walk (gx14 hC)) ?_;refine G1 24 rfl NB ?_;refine S PA (S As (nil ?_));exact rt hE
  refine seqJH (TA 1 kN) (fun(z:Bool)=>[(27,.a (.d (.bool z)))]) (fun z=>H) (fun z=>Z9_j15 a0 z=some r) ?_ ?_
  ·intro K15 hK15;refine seqR (S BI (S As (nil ?_)));refine cE hE (fun hc25 hE=>?_) (fun hc25 hE=>?_)
   ·refine AWp.skip ?_;exact hK15 _ (decide (a0.FKind=(9:Int))) wA hE
   refine region ?_;refine S BI (S As (nil ?_));exact hK15 _ (decide (a0.FKind=(15:Int))) wA hE
  rintro s27_16 hE;try dsimp only at hE
  unfold Z9_j15 at hE;refine cE hE (fun hc17 hE=>?_) (fun hc17 hE=>?_)
  ·refine seqR (S Fv (S Ld ?_));obtain⟨x19,gx19,hE⟩:=bO hE;refine Sc rfl rfl (Z154_walk gx19) ?_;refine S Mv (S EX (S EX ?_));refine Sl ?_;refine Sf ?_;refine S As (nil ?_);refine freezeA 3 _ rfl (KA 1 (KA 4 Keeps.nil)) ?_;refine seqR (S Fv (S Ld ?_));obtain⟨x21,gx21,hE⟩:=bO hE;refine Sc rfl rfl (Z154_walk gx21) ?_;refine S Mv (S EX (S EX ?_));refine Sl ?_;refine Sf ?_;refine S As (nil ?_);refine freezeA 5 _ rfl (KA 3 (KA 4 (KA 6 Keeps.nil))) ?_
   refine seqR (S Mv (S BI (S Mv (G0 Mv ?_))));refine G1 45 rfl BI ?_;refine S PA (S Mv (G0 Ld (G0 Ld ?_)));obtain⟨x23,gx23,hE⟩:=gO hE;refine Gc2 49 50 rfl rfl rfl rfl rfl rfl (fun hC=>Z149_walk (gx23 hC)) ?_;refine S PA (S As (nil ?_));exact rt hE
  refine AWp.skip ?_;exact hK2 _ () wA hE
 rintro _ hE;try dsimp only at hE
 unfold Z9_j2 at hE;refine seqR (S As (nil ?_));exact rt hE
section
variable [IsLoud lou]
theorem eqt_40:eqTab Tryz.prog 40=some [.int .i64,.str,.str,.str,.str,.str]:=by kernel_rfl
def Z31 :Option Bool:=(Z33 (TRef.mk ([73,110,116]:Bs) (Sl.nil:Sl Int)) ([121]:Bs)).bind fun x4=>(Z33 (TRef.mk ([73,110,116]:Bs) (⟨false,[(1:Int)]⟩:Sl Int)) ([122]:Bs)).bind fun x5=>(Z10 x4 x5).bind fun x6=>bif (!decide (((x6.l.length:Nat):Int)=(3:Int))) then(some false) else((x6.l[0]?).bind fun x13=>guardO ((decide (x13.FKind=(Z2.mk (9:Int) ([65]:Bs) ([120]:Bs) ([110]:Bs) ([73,110,116]:Bs) ([73,110,116,33]:Bs)).FKind)&&((x13.FType==(Z2.mk (9:Int) ([65]:Bs) ([120]:Bs) ([110]:Bs) ([73,110,116]:Bs) ([73,110,116,33]:Bs)).FType)&&((x13.FField==(Z2.mk (9:Int) ([65]:Bs) ([120]:Bs) ([110]:Bs) ([73,110,116]:Bs) ([73,110,116,33]:Bs)).FField)&&((x13.FArg==(Z2.mk (9:Int) ([65]:Bs) ([120]:Bs) ([110]:Bs) ([73,110,116]:Bs) ([73,110,116,33]:Bs)).FArg)&&((x13.FFrom==(Z2.mk (9:Int) ([65]:Bs) ([120]:Bs) ([110]:Bs) ([73,110,116]:Bs) ([73,110,116,33]:Bs)).FFrom)&&((x13.FTo==(Z2.mk (9:Int) ([65]:Bs) ([120]:Bs) ([110]:Bs) ([73,110,116]:Bs) ([73,110,116,33]:Bs)).FTo)&&true))))))) (x6.l[1]?) Z2.zero fun x14=>guardO (((decide (x13.FKind=(Z2.mk (9:Int) ([65]:Bs) ([120]:Bs) ([110]:Bs) ([73,110,116]:Bs) ([73,110,116,33]:Bs)).FKind)&&((x13.FType==(Z2.mk (9:Int) ([65]:Bs) ([120]:Bs) ([110]:Bs) ([73,110,116]:Bs) ([73,110,116,33]:Bs)).FType)&&((x13.FField==(Z2.mk (9:Int) ([65]:Bs) ([120]:Bs) ([110]:Bs) ([73,110,116]:Bs) ([73,110,116,33]:Bs)).FField)&&((x13.FArg==(Z2.mk (9:Int) ([65]:Bs) ([120]:Bs) ([110]:Bs) ([73,110,116]:Bs) ([73,110,116,33]:Bs)).FArg)&&((x13.FFrom==(Z2.mk (9:Int) ([65]:Bs) ([120]:Bs) ([110]:Bs) ([73,110,116]:Bs) ([73,110,116,33]:Bs)).FFrom)&&((x13.FTo==(Z2.mk (9:Int) ([65]:Bs) ([120]:Bs) ([110]:Bs) ([73,110,116]:Bs) ([73,110,116,33]:Bs)).FTo)&&true))))))&&(decide (x14.FKind=(4:Int))))) (x6.l[2]?) Z2.zero fun x15=>guardO ((((decide (x13.FKind=(Z2.mk (9:Int) ([65]:Bs) ([120]:Bs) ([110]:Bs) ([73,110,116]:Bs) ([73,110,116,33]:Bs)).FKind)&&((x13.FType==(Z2.mk (9:Int) ([65]:Bs) ([120]:Bs) ([110]:Bs) ([73,110,116]:Bs) ([73,110,116,33]:Bs)).FType)&&((x13.FField==(Z2.mk (9:Int) ([65]:Bs) ([120]:Bs) ([110]:Bs) ([73,110,116]:Bs) ([73,110,116,33]:Bs)).FField)&&((x13.FArg==(Z2.mk (9:Int) ([65]:Bs) ([120]:Bs) ([110]:Bs) ([73,110,116]:Bs) ([73,110,116,33]:Bs)).FArg)&&((x13.FFrom==(Z2.mk (9:Int) ([65]:Bs) ([120]:Bs) ([110]:Bs) ([73,110,116]:Bs) ([73,110,116,33]:Bs)).FFrom)&&((x13.FTo==(Z2.mk (9:Int) ([65]:Bs) ([120]:Bs) ([110]:Bs) ([73,110,116]:Bs) ([73,110,116,33]:Bs)).FTo)&&true))))))&&(decide (x14.FKind=(4:Int))))&&(decide (x15.FKind=(Z2.mk (5:Int) ([65]:Bs) ([122]:Bs) ([]:Bs) ([]:Bs) ([73,110,116]:Bs)).FKind)&&((x15.FType==(Z2.mk (5:Int) ([65]:Bs) ([122]:Bs) ([]:Bs) ([]:Bs) ([73,110,116]:Bs)).FType)&&((x15.FField==(Z2.mk (5:Int) ([65]:Bs) ([122]:Bs) ([]:Bs) ([]:Bs) ([73,110,116]:Bs)).FField)&&((x15.FArg==(Z2.mk (5:Int) ([65]:Bs) ([122]:Bs) ([]:Bs) ([]:Bs) ([73,110,116]:Bs)).FArg)&&((x15.FFrom==(Z2.mk (5:Int) ([65]:Bs) ([122]:Bs) ([]:Bs) ([]:Bs) ([73,110,116]:Bs)).FFrom)&&((x15.FTo==(Z2.mk (5:Int) ([65]:Bs) ([122]:Bs) ([]:Bs) ([]:Bs) ([73,110,116]:Bs)).FTo)&&true)))))))) (x6.l[0]?) Z2.zero fun x16=>guardO ((((decide (x13.FKind=(Z2.mk (9:Int) ([65]:Bs) ([120]:Bs) ([110]:Bs) ([73,110,116]:Bs) ([73,110,116,33]:Bs)).FKind)&&((x13.FType==(Z2.mk (9:Int) ([65]:Bs) ([120]:Bs) ([110]:Bs) ([73,110,116]:Bs) ([73,110,116,33]:Bs)).FType)&&((x13.FField==(Z2.mk (9:Int) ([65]:Bs) ([120]:Bs) ([110]:Bs) ([73,110,116]:Bs) ([73,110,116,33]:Bs)).FField)&&((x13.FArg==(Z2.mk (9:Int) ([65]:Bs) ([120]:Bs) ([110]:Bs) ([73,110,116]:Bs) ([73,110,116,33]:Bs)).FArg)&&((x13.FFrom==(Z2.mk (9:Int) ([65]:Bs) ([120]:Bs) ([110]:Bs) ([73,110,116]:Bs) ([73,110,116,33]:Bs)).FFrom)&&((x13.FTo==(Z2.mk (9:Int) ([65]:Bs) ([120]:Bs) ([110]:Bs) ([73,110,116]:Bs) ([73,110,116,33]:Bs)).FTo)&&true))))))&&(decide (x14.FKind=(4:Int))))&&(decide (x15.FKind=(Z2.mk (5:Int) ([65]:Bs) ([122]:Bs) ([]:Bs) ([]:Bs) ([73,110,116]:Bs)).FKind)&&((x15.FType==(Z2.mk (5:Int) ([65]:Bs) ([122]:Bs) ([]:Bs) ([]:Bs) ([73,110,116]:Bs)).FType)&&((x15.FField==(Z2.mk (5:Int) ([65]:Bs) ([122]:Bs) ([]:Bs) ([]:Bs) ([73,110,116]:Bs)).FField)&&((x15.FArg==(Z2.mk (5:Int) ([65]:Bs) ([122]:Bs) ([]:Bs) ([]:Bs) ([73,110,116]:Bs)).FArg)&&((x15.FFrom==(Z2.mk (5:Int) ([65]:Bs) ([122]:Bs) ([]:Bs) ([]:Bs) ([73,110,116]:Bs)).FFrom)&&((x15.FTo==(Z2.mk (5:Int) ([65]:Bs) ([122]:Bs) ([]:Bs) ([]:Bs) ([73,110,116]:Bs)).FTo)&&true)))))))) (Z11 x16) ([]:Bs) fun x17=>guardO (((((decide (x13.FKind=(Z2.mk (9:Int) ([65]:Bs) ([120]:Bs) ([110]:Bs) ([73,110,116]:Bs) ([73,110,116,33]:Bs)).FKind)&&((x13.FType==(Z2.mk (9:Int) ([65]:Bs) ([120]:Bs) ([110]:Bs) ([73,110,116]:Bs) ([73,110,116,33]:Bs)).FType)&&((x13.FField==(Z2.mk (9:Int) ([65]:Bs) ([120]:Bs) ([110]:Bs) ([73,110,116]:Bs) ([73,110,116,33]:Bs)).FField)&&((x13.FArg==(Z2.mk (9:Int) ([65]:Bs) ([120]:Bs) ([110]:Bs) ([73,110,116]:Bs) ([73,110,116,33]:Bs)).FArg)&&((x13.FFrom==(Z2.mk (9:Int) ([65]:Bs) ([120]:Bs) ([110]:Bs) ([73,110,116]:Bs) ([73,110,116,33]:Bs)).FFrom)&&((x13.FTo==(Z2.mk (9:Int) ([65]:Bs) ([120]:Bs) ([110]:Bs) ([73,110,116]:Bs) ([73,110,116,33]:Bs)).FTo)&&true))))))&&(decide (x14.FKind=(4:Int))))&&(decide (x15.FKind=(Z2.mk (5:Int) ([65]:Bs) ([122]:Bs) ([]:Bs) ([]:Bs) ([73,110,116]:Bs)).FKind)&&((x15.FType==(Z2.mk (5:Int) ([65]:Bs) ([122]:Bs) ([]:Bs) ([]:Bs) ([73,110,116]:Bs)).FType)&&((x15.FField==(Z2.mk (5:Int) ([65]:Bs) ([122]:Bs) ([]:Bs) ([]:Bs) ([73,110,116]:Bs)).FField)&&((x15.FArg==(Z2.mk (5:Int) ([65]:Bs) ([122]:Bs) ([]:Bs) ([]:Bs) ([73,110,116]:Bs)).FArg)&&((x15.FFrom==(Z2.mk (5:Int) ([65]:Bs) ([122]:Bs) ([]:Bs) ([]:Bs) ([73,110,116]:Bs)).FFrom)&&((x15.FTo==(Z2.mk (5:Int) ([65]:Bs) ([122]:Bs) ([]:Bs) ([]:Bs) ([73,110,116]:Bs)).FTo)&&true)))))))&&((x17==([65,114,103,84,121,112,101,32,65,46,120,40,110,41,58,32,73,110,116,32,45,62,32,73,110,116,33]:Bs))))) (x6.l[0]?) Z2.zero fun x18=>guardO (((((decide (x13.FKind=(Z2.mk (9:Int) ([65]:Bs) ([120]:Bs) ([110]:Bs) ([73,110,116]:Bs) ([73,110,116,33]:Bs)).FKind)&&((x13.FType==(Z2.mk (9:Int) ([65]:Bs) ([120]:Bs) ([110]:Bs) ([73,110,116]:Bs) ([73,110,116,33]:Bs)).FType)&&((x13.FField==(Z2.mk (9:Int) ([65]:Bs) ([120]:Bs) ([110]:Bs) ([73,110,116]:Bs) ([73,110,116,33]:Bs)).FField)&&((x13.FArg==(Z2.mk (9:Int) ([65]:Bs) ([120]:Bs) ([110]:Bs) ([73,110,116]:Bs) ([73,110,116,33]:Bs)).FArg)&&((x13.FFrom==(Z2.mk (9:Int) ([65]:Bs) ([120]:Bs) ([110]:Bs) ([73,110,116]:Bs) ([73,110,116,33]:Bs)).FFrom)&&((x13.FTo==(Z2.mk (9:Int) ([65]:Bs) ([120]:Bs) ([110]:Bs) ([73,110,116]:Bs) ([73,110,116,33]:Bs)).FTo)&&true))))))&&(decide (x14.FKind=(4:Int))))&&(decide (x15.FKind=(Z2.mk (5:Int) ([65]:Bs) ([122]:Bs) ([]:Bs) ([]:Bs) ([73,110,116]:Bs)).FKind)&&((x15.FType==(Z2.mk (5:Int) ([65]:Bs) ([122]:Bs) ([]:Bs) ([]:Bs) ([73,110,116]:Bs)).FType)&&((x15.FField==(Z2.mk (5:Int) ([65]:Bs) ([122]:Bs) ([]:Bs) ([]:Bs) ([73,110,116]:Bs)).FField)&&((x15.FArg==(Z2.mk (5:Int) ([65]:Bs) ([122]:Bs) ([]:Bs) ([]:Bs) ([73,110,116]:Bs)).FArg)&&((x15.FFrom==(Z2.mk (5:Int) ([65]:Bs) ([122]:Bs) ([]:Bs) ([]:Bs) ([73,110,116]:Bs)).FFrom)&&((x15.FTo==(Z2.mk (5:Int) ([65]:Bs) ([122]:Bs) ([]:Bs) ([]:Bs) ([73,110,116]:Bs)).FTo)&&true)))))))&&((x17==([65,114,103,84,121,112,101,32,65,46,120,40,110,41,58,32,73,110,116,32,45,62,32,73,110,116,33]:Bs))))) (Z9 x18) false fun x19=>guardO ((((((decide (x13.FKind=(Z2.mk (9:Int) ([65]:Bs) ([120]:Bs) ([110]:Bs) ([73,110,116]:Bs) ([73,110,116,33]:Bs)).FKind)&&((x13.FType==(Z2.mk (9:Int) ([65]:Bs) ([120]:Bs) ([110]:Bs) ([73,110,116]:Bs) ([73,110,116,33]:Bs)).FType)&&((x13.FField==(Z2.mk (9:Int) ([65]:Bs) ([120]:Bs) ([110]:Bs) ([73,110,116]:Bs) ([73,110,116,33]:Bs)).FField)&&((x13.FArg==(Z2.mk (9:Int) ([65]:Bs) ([120]:Bs) ([110]:Bs) ([73,110,116]:Bs) ([73,110,116,33]:Bs)).FArg)&&((x13.FFrom==(Z2.mk (9:Int) ([65]:Bs) ([120]:Bs) ([110]:Bs) ([73,110,116]:Bs) ([73,110,116,33]:Bs)).FFrom)&&((x13.FTo==(Z2.mk (9:Int) ([65]:Bs) ([120]:Bs) ([110]:Bs) ([73,110,116]:Bs) ([73,110,116,33]:Bs)).FTo)&&true))))))&&(decide (x14.FKind=(4:Int))))&&(decide (x15.FKind=(Z2.mk (5:Int) ([65]:Bs) ([122]:Bs) ([]:Bs) ([]:Bs) ([73,110,116]:Bs)).FKind)&&((x15.FType==(Z2.mk (5:Int) ([65]:Bs) ([122]:Bs) ([]:Bs) ([]:Bs) ([73,110,116]:Bs)).FType)&&((x15.FField==(Z2.mk (5:Int) ([65]:Bs) ([122]:Bs) ([]:Bs) ([]:Bs) ([73,110,116]:Bs)).FField)&&((x15.FArg==(Z2.mk (5:Int) ([65]:Bs) ([122]:Bs) ([]:Bs) ([]:Bs) ([73,110,116]:Bs)).FArg)&&((x15.FFrom==(Z2.mk (5:Int) ([65]:Bs) ([122]:Bs) ([]:Bs) ([]:Bs) ([73,110,116]:Bs)).FFrom)&&((x15.FTo==(Z2.mk (5:Int) ([65]:Bs) ([122]:Bs) ([]:Bs) ([]:Bs) ([73,110,116]:Bs)).FTo)&&true)))))))&&((x17==([65,114,103,84,121,112,101,32,65,46,120,40,110,41,58,32,73,110,116,32,45,62,32,73,110,116,33]:Bs))))&&(!x19))) (x6.l[2]?) Z2.zero fun x20=>guardO ((((((decide (x13.FKind=(Z2.mk (9:Int) ([65]:Bs) ([120]:Bs) ([110]:Bs) ([73,110,116]:Bs) ([73,110,116,33]:Bs)).FKind)&&((x13.FType==(Z2.mk (9:Int) ([65]:Bs) ([120]:Bs) ([110]:Bs) ([73,110,116]:Bs) ([73,110,116,33]:Bs)).FType)&&((x13.FField==(Z2.mk (9:Int) ([65]:Bs) ([120]:Bs) ([110]:Bs) ([73,110,116]:Bs) ([73,110,116,33]:Bs)).FField)&&((x13.FArg==(Z2.mk (9:Int) ([65]:Bs) ([120]:Bs) ([110]:Bs) ([73,110,116]:Bs) ([73,110,116,33]:Bs)).FArg)&&((x13.FFrom==(Z2.mk (9:Int) ([65]:Bs) ([120]:Bs) ([110]:Bs) ([73,110,116]:Bs) ([73,110,116,33]:Bs)).FFrom)&&((x13.FTo==(Z2.mk (9:Int) ([65]:Bs) ([120]:Bs) ([110]:Bs) ([73,110,116]:Bs) ([73,110,116,33]:Bs)).FTo)&&true))))))&&(decide (x14.FKind=(4:Int))))&&(decide (x15.FKind=(Z2.mk (5:Int) ([65]:Bs) ([122]:Bs) ([]:Bs) ([]:Bs) ([73,110,116]:Bs)).FKind)&&((x15.FType==(Z2.mk (5:Int) ([65]:Bs) ([122]:Bs) ([]:Bs) ([]:Bs) ([73,110,116]:Bs)).FType)&&((x15.FField==(Z2.mk (5:Int) ([65]:Bs) ([122]:Bs) ([]:Bs) ([]:Bs) ([73,110,116]:Bs)).FField)&&((x15.FArg==(Z2.mk (5:Int) ([65]:Bs) ([122]:Bs) ([]:Bs) ([]:Bs) ([73,110,116]:Bs)).FArg)&&((x15.FFrom==(Z2.mk (5:Int) ([65]:Bs) ([122]:Bs) ([]:Bs) ([]:Bs) ([73,110,116]:Bs)).FFrom)&&((x15.FTo==(Z2.mk (5:Int) ([65]:Bs) ([122]:Bs) ([]:Bs) ([]:Bs) ([73,110,116]:Bs)).FTo)&&true)))))))&&((x17==([65,114,103,84,121,112,101,32,65,46,120,40,110,41,58,32,73,110,116,32,45,62,32,73,110,116,33]:Bs))))&&(!x19))) (Z9 x20) false fun x21=>some ((((((decide (x13.FKind=(Z2.mk (9:Int) ([65]:Bs) ([120]:Bs) ([110]:Bs) ([73,110,116]:Bs) ([73,110,116,33]:Bs)).FKind)&&((x13.FType==(Z2.mk (9:Int) ([65]:Bs) ([120]:Bs) ([110]:Bs) ([73,110,116]:Bs) ([73,110,116,33]:Bs)).FType)&&((x13.FField==(Z2.mk (9:Int) ([65]:Bs) ([120]:Bs) ([110]:Bs) ([73,110,116]:Bs) ([73,110,116,33]:Bs)).FField)&&((x13.FArg==(Z2.mk (9:Int) ([65]:Bs) ([120]:Bs) ([110]:Bs) ([73,110,116]:Bs) ([73,110,116,33]:Bs)).FArg)&&((x13.FFrom==(Z2.mk (9:Int) ([65]:Bs) ([120]:Bs) ([110]:Bs) ([73,110,116]:Bs) ([73,110,116,33]:Bs)).FFrom)&&((x13.FTo==(Z2.mk (9:Int) ([65]:Bs) ([120]:Bs) ([110]:Bs) ([73,110,116]:Bs) ([73,110,116,33]:Bs)).FTo)&&true))))))&&(decide (x14.FKind=(4:Int))))&&(decide (x15.FKind=(Z2.mk (5:Int) ([65]:Bs) ([122]:Bs) ([]:Bs) ([]:Bs) ([73,110,116]:Bs)).FKind)&&((x15.FType==(Z2.mk (5:Int) ([65]:Bs) ([122]:Bs) ([]:Bs) ([]:Bs) ([73,110,116]:Bs)).FType)&&((x15.FField==(Z2.mk (5:Int) ([65]:Bs) ([122]:Bs) ([]:Bs) ([]:Bs) ([73,110,116]:Bs)).FField)&&((x15.FArg==(Z2.mk (5:Int) ([65]:Bs) ([122]:Bs) ([]:Bs) ([]:Bs) ([73,110,116]:Bs)).FArg)&&((x15.FFrom==(Z2.mk (5:Int) ([65]:Bs) ([122]:Bs) ([]:Bs) ([]:Bs) ([73,110,116]:Bs)).FFrom)&&((x15.FTo==(Z2.mk (5:Int) ([65]:Bs) ([122]:Bs) ([]:Bs) ([]:Bs) ([73,110,116]:Bs)).FTo)&&true)))))))&&((x17==([65,114,103,84,121,112,101,32,65,46,120,40,110,41,58,32,73,110,116,32,45,62,32,73,110,116,33]:Bs))))&&(!x19))&&x21))
theorem Z31_walk  {oT:Ab.Obj}{gT:Nat}{r:Bool}(hE:Z31 =some r) (H:Heap) (hgT:H gT=some oT) (hoT:IsTab Tryz.prog oT):AC Tryz.prog 5 [] H fun v h'=>v=.a (.d (.bool r))/\h'=H:=by
 unfold Z31 at hE;refine AC.oW 52 [.tmp 0] Tryz.call5 Tryz.func5 ?_;refine seqR (S As (nil ?_));refine seqR (S BV (S BU ?_));refine Sl ?_;refine Sf ?_;refine nil ?_;refine freezeA 1 _ rfl Keeps.nil ?_;refine AWp.seqD (Sd BU ?_);obtain⟨x4,gx4,hE⟩:=bO hE;refine Scd rfl rfl (Z33_walk gx4) ?_;refine Sd Ld ?_;obtain⟨x5,gx5,hE⟩:=bO hE;refine Scd rfl rfl (Z33_walk gx5) ?_;obtain⟨x6,gx6,hE⟩:=bO hE;refine DOps.s0 (callR rfl rfl (Z10_walk (gT:=gT) (oT:=oT) gx6 _ hpG (by assumption))) rfl ?_
 refine Sd As ?_;refine DOps.nil (by decide +kernel) ?_;refine seqK fun K7 hK7=>?_;refine seqR (S Mv ?_);refine sLen (f:=Z2.c) (s:=x6) (TK rfl) rfl rfl rfl rfl fun hL9=>?_;refine S BI (nil ?_);refine cE hE (fun hc10 hE=>?_) (fun hc10 hE=>?_)
 ·refine seqR (S As (nil ?_));exact rt hE
 refine sk hK7 ?_;clear hK7 K7;refine seqR (S Mv ?_);obtain⟨x13,gx13,hE⟩:=bO hE;refine S (ix Z2.c 0 gx13) (S Ld (S BU ?_));refine s0 (eqStruct eqt_40 rfl rfl rfl rfl) rfl ?_;refine S Mv (G0 Mv ?_);obtain⟨x14,gx14,hE⟩:=gO hE;refine gC rfl rfl (fun hC=>ungdA (k:=19) rfl (idxMn (f:=Z2.c) (n:=1) (TK rfl) rfl (TK rfl) rfl rfl rfl (gx14 hC))) rfl ?_;refine G1 20 rfl Fv ?_;refine G1 21 rfl Ld ?_;refine G1 22 rfl BI ?_
 refine S PA (S Mv (G0 Mv ?_));obtain⟨x15,gx15,hE⟩:=gO hE;refine gC rfl rfl (fun hC=>ungdA (k:=26) rfl (idxMn (f:=Z2.c) (n:=2) (TK rfl) rfl (TK rfl) rfl rfl rfl (gx15 hC))) rfl ?_;refine G1 27 rfl Ld ?_;refine G0 BU ?_;refine gC rfl rfl (fun hC=>ungdA (k:=28) rfl (ungdA (k:=29) rfl (eqStruct eqt_40 rfl rfl rfl rfl))) rfl ?_;refine S PA (S Mv (G0 Mv ?_));obtain⟨x16,gx16,hE⟩:=gO hE;refine gC rfl rfl (fun hC=>ungdA (k:=33) rfl (idxMn (f:=Z2.c) (n:=0) (TK rfl) rfl (TK rfl) rfl rfl rfl (gx16 hC))) rfl ?_
 refine G1 34 rfl Ld ?_;obtain⟨x17,gx17,hE⟩:=gO hE;refine gC rfl rfl (fun hC=>ungdA (k:=35) rfl (callR rfl rfl (Z11_walk (gT:=gT) (oT:=oT) (gx17 hC) _ hpG (by assumption)))) rfl ?_;refine G1 36 rfl BS ?_;refine S PA (S Mv (G0 Mv ?_));obtain⟨x18,gx18,hE⟩:=gO hE;refine gC rfl rfl (fun hC=>ungdA (k:=40) rfl (idxMn (f:=Z2.c) (n:=0) (TK rfl) rfl (TK rfl) rfl rfl rfl (gx18 hC))) rfl ?_;refine G1 41 rfl Ld ?_
 obtain⟨x19,gx19,hE⟩:=gO hE;refine Gc1 42 rfl rfl rfl rfl rfl (fun hC=>Z9_walk (gx19 hC)) ?_;refine G1 43 rfl NB ?_;refine S PA (S Mv (G0 Mv ?_));obtain⟨x20,gx20,hE⟩:=gO hE;refine gC rfl rfl (fun hC=>ungdA (k:=47) rfl (idxMn (f:=Z2.c) (n:=2) (TK rfl) rfl (TK rfl) rfl rfl rfl (gx20 hC))) rfl ?_;refine G1 48 rfl Ld ?_;obtain⟨x21,gx21,hE⟩:=gO hE;refine Gc1 49 rfl rfl rfl rfl rfl (fun hC=>Z9_walk (gx21 hC)) ?_
 refine S PA (S As (nil ?_));exact rt hE
end
def Z81_j8  :Option Bool:=some true
def Z81_l11 (a0:(Sl Bs)) (a1:(Sl Bs)) :Nat->Nat->Option Bool
 | 0,_=>none
 | n11+1,s5_12=>bif (decide (((s5_12:Nat):Int)<((a0.l.length:Nat):Int))) then((a0.l[s5_12]?).bind fun x19=>(a1.l[s5_12]?).bind fun x20=>bif (!(x19==x20)) then(some false) else((Z81_l11 a0 a1 n11) (s5_12+1))) else(Z81_j8   )
def Z81 (a0:(Sl Bs)) (a1:(Sl Bs)):Option Bool:=bif (!decide (((a0.l.length:Nat):Int)=((a1.l.length:Nat):Int))) then(some false) else(Z81_l11 a0 a1 (a0.l.length+1) 0)
theorem Z81_walk {a0 a1:Sl Bs}{w0 w1:Option Nat}{r:Bool}(hE:Z81 a0 a1=some r) (H:Heap) :AC Tryz.prog 44 [.d (Sl.d 1 strE w0 a0),.d (Sl.d 1 strE w1 a1)] H fun v h'=>v=.a (.d (.bool r))/\h'=H:=by
 unfold Z81 at hE;refine AC.oW 26 [.tmp 4] Tryz.call44 Tryz.func44 ?_;refine seqR (S As (nil ?_));refine seqK fun K2 hK2=>?_;refine seqR (S Mv ?_);refine sLen (f:=strE) (s:=a0) (TK rfl) rfl rfl rfl rfl fun hL4=>?_;refine S Mv ?_;refine sLen (f:=strE) (s:=a1) (TK rfl) rfl rfl rfl rfl fun hL5=>?_;refine S BI (nil ?_);refine cE hE (fun hc6 hE=>?_) (fun hc6 hE=>?_)
 ·refine seqR (S As (nil ?_));exact rt hE
 refine sk hK2 ?_;clear hK2 K2;refine seqJH kN (fun(z:Unit)=>[]) (fun z=>H) (fun z=>Z81_j8 =some r) ?_ ?_
 ·intro K8 hK8;refine seqR (S As (nil ?_));refine block ?_;refine loopH (TA 0 (TA 1 kN)) (fun(z:Nat×Nat)=>[(5,.a (.d (.int .i64 ((z.2:Nat):Int))))]) (fun z=>H) (fun z=>z.1) (fun z=>Z81_l11 a0 a1 z.1 z.2=some r) ((a0.l.length+1),0) hE wA ?_;rintro ⟨n11,s5_12⟩ hE K11 hK11;try dsimp only at hE
  cases n11 with
  | zero=>cases hE
  | succ n11 =>
    rw [Z81_l11] at hE;refine seqK fun K13 hK13=>?_;refine seqR (S Mv (S Mv ?_));refine sLen (f:=strE) (s:=a0) (TK rfl) rfl rfl rfl rfl fun hL15=>?_;refine S BI (nil ?_);refine cE hE (fun hc16 hE=>?_) (fun hc16 hE=>?_)
    ·try dsimp only at hc16
     have hf16:=oD hc16;refine sk hK13 ?_;clear hK13 K13;refine seqK fun K17 hK17=>?_;refine block ?_;refine AWp.seqD (Sd Mv (Sd Mv ?_));obtain⟨x19,gx19,hE⟩:=bO hE;refine Sd (ix strE s5_12 gx19) (Sd Ld (Sd Mv (Sd Mv ?_)));obtain⟨x20,gx20,hE⟩:=bO hE;refine Sd (ix strE s5_12 gx20) (Sd Ld (Sd BS ?_));refine DOps.nil (by decide +kernel) ?_;refine cE hE (fun hc21 hE=>?_) (fun hc21 hE=>?_)
     ·refine seqR (S As (nil ?_));exact rt hE
     refine sk hK17 ?_;clear hK17 K17;refine region ?_;refine S Mv ?_;refine SI ?_;refine S As (nil ?_);exact hK11 _ (n11,(s5_12+1)) wA hE (nS _)
    refine AWp.exit ?_;exact hK8 _ () wA hE
 rintro _ hE;try dsimp only at hE
 unfold Z81_j8 at hE;refine seqR (S As (nil ?_));exact rt hE
def Z44 (a0:Int) (a1:Int):Option Int:=bif (decide (a0<a1)) then(some (-1:Int)) else(bif (decide (a1<a0)) then(some (1:Int)) else(some (0:Int)))
theorem Z44_walk {a0 a1 r:Int}(hE:Z44 a0 a1=some r) (H:Heap) :AC Tryz.prog 145 [.d (.int .i64 a0),.d (.int .i64 a1)] H fun v h'=>v=.a (.d (.int .i64 r))/\h'=H:=by
 unfold Z44 at hE;refine AC.oW 11 [.tmp 4] Tryz.call145 Tryz.func145 ?_;refine seqR (S As (nil ?_));refine seqK fun K2 hK2=>?_;refine seqR (S Mv (S Mv (S BI (nil ?_))));refine cE hE (fun hc4 hE=>?_) (fun hc4 hE=>?_)
 ·refine seqR (S As (nil ?_));exact rt hE
 refine sk hK2 ?_;clear hK2 K2;refine seqK fun K6 hK6=>?_;refine seqR (S Mv (S Mv (S BI (nil ?_))));refine cE hE (fun hc8 hE=>?_) (fun hc8 hE=>?_)
 ·refine seqR (S As (nil ?_));exact rt hE
 refine sk hK6 ?_;clear hK6 K6;refine seqR (S As (nil ?_));exact rt hE
def Z47 (a0:Bs) (a1:Bs):Option Int:=bif (Op.bytesLess a0 a1) then(some (-1:Int)) else(bif (!(Op.bytesLess a0 a1||a0==a1)) then(some (1:Int)) else(some (0:Int)))
theorem Z47_walk {a0 a1:Bs}{r:Int}(hE:Z47 a0 a1=some r) (H:Heap) :AC Tryz.prog 146 [.d (.str a0),.d (.str a1)] H fun v h'=>v=.a (.d (.int .i64 r))/\h'=H:=by
 unfold Z47 at hE;refine AC.oW 11 [.tmp 4] Tryz.call146 Tryz.func146 ?_;refine seqR (S As (nil ?_));refine seqK fun K2 hK2=>?_;refine seqR (S Mv (S Mv (S BS (nil ?_))));refine cE hE (fun hc4 hE=>?_) (fun hc4 hE=>?_)
 ·refine seqR (S As (nil ?_));exact rt hE
 refine sk hK2 ?_;clear hK2 K2;refine seqK fun K6 hK6=>?_;refine seqR (S Mv (S Mv (S BS (nil ?_))));refine cE hE (fun hc8 hE=>?_) (fun hc8 hE=>?_)
 ·refine seqR (S As (nil ?_));exact rt hE
 refine sk hK6 ?_;clear hK6 K6;refine seqR (S As (nil ?_));exact rt hE
def Z45 (a0:Z7) (a1:Int):Option Bs:=bif (decide (a1<((a0.FKeys.l.length:Nat):Int))) then((idxC a0.FKeys.l a1).bind fun x7=>some x7) else(some ([]:Bs))
theorem Z45_walk {a0:Z7}{a1:Int}{r:Bs}(hE:Z45 a0 a1=some r) (H:Heap) :AC Tryz.prog 147 [.agg (Z7.c a0),.d (.int .i64 a1)] H fun v h'=>v=.a (.d (.str r))/\h'=H:=by
 unfold Z45 at hE;refine AC.oW 15 [.tmp 4] Tryz.call147 Tryz.func147 ?_;refine seqR (S BX (S As (nil ?_)));refine seqK fun K2 hK2=>?_;refine seqR (S Mv (S Fv (S Ld ?_)));refine sLen (f:=strE) (s:=a0.FKeys) (TK rfl) rfl rfl rfl rfl fun hL4=>?_;refine S BI (nil ?_);refine cE hE (fun hc5 hE=>?_) (fun hc5 hE=>?_)
 ·refine seqR (S Fv (S Ld (S Mv ?_)));obtain⟨x7,gx7,hE⟩:=bO hE;refine s0 (idxM (f:=strE) (TK rfl) rfl (TK rfl) rfl rfl rfl gx7) rfl ?_;refine S Ld (S As (nil ?_));exact rt hE
 refine sk hK2 ?_;clear hK2 K2;refine seqR (S As (nil ?_));exact rt hE
end Go.Proofs

namespace Go.Proofs
open Go Go.Ab
open AOps Cert AWp Keeps KeepsT
variable {lou:Lou}
def Z38_j8  (s5_9:Int):Option Int:=some s5_9
def Z38_j18 (s6_14:Int) (k_next_12:Int->Int->Option Int) (s5_19:Int):Option Int:=(addC s6_14 (1:Int)).bind fun x20=>k_next_12 s5_19 x20
def Z38_l12 (a0:Z7) (a1:Z7) (k_rec_114:Z7->Z7->Option Int):Nat->Int->Int->Option Int
 | 0,_,_=>none
 | n12+1,s5_13,s6_14=>bif (decide (s5_13=(0:Int))) then(bif ((decide (((a0.FItems.l.length:Nat):Int)<=s6_14))||(decide (((a1.FItems.l.length:Nat):Int)<=s6_14))) then((Z44 ((a0.FItems.l.length:Nat):Int) ((a1.FItems.l.length:Nat):Int)).bind fun x28=>some x28) else((Z45 a0 s6_14).bind fun x30=>(Z45 a1 s6_14).bind fun x31=>(Z47 x30 x31).bind fun x32=>bif (decide (x32=(0:Int))) then((idxC a0.FItems.l s6_14).bind fun x35=>(idxC a1.FItems.l s6_14).bind fun x36=>(k_rec_114 x35 x36).bind fun x37=>Z38_j18 s6_14 ((Z38_l12 a0 a1 k_rec_114 n12)) x37) else(Z38_j18 s6_14 ((Z38_l12 a0 a1 k_rec_114 n12)) x32))) else(Z38_j8   s5_13)
def Z38_j6 (a0:Z7) (a1:Z7) (k_rec_114:Z7->Z7->Option Int) (s5_7:Int):Option Int:=Z38_l12 a0 a1 k_rec_114 F0 s5_7 (0:Int)
def Z38_j4 (a0:Z7) (a1:Z7) (k_rec_114:Z7->Z7->Option Int) (s5_5:Int):Option Int:=bif (decide (s5_5=(0:Int))) then((Z47 a0.FText a1.FText).bind fun x40=>Z38_j6 a0 a1 k_rec_114 x40) else(Z38_j6 a0 a1 k_rec_114 s5_5)
def Z38_n:Nat->Z7->Z7->Option Int
 | 0,_,_=>none
 | n+1,a0,a1=>(Z44 a0.FKind a1.FKind).bind fun x3=>bif (decide (x3=(0:Int))) then((Z44 a0.FInt a1.FInt).bind fun x43=>Z38_j4 a0 a1 (Z38_n n) x43) else(Z38_j4 a0 a1 (Z38_n n) x3)
theorem Z38_step (n:Nat) (ih_114:∀{a0 a1:Z7}{r:Int},Z38_n n a0 a1=some r->∀(H:Heap),AC Tryz.prog 114 [.agg (Z7.c a0),.agg (Z7.c a1)] H fun v h'=>v=.a (.d (.int .i64 r))/\h'=H):∀{a0 a1:Z7}{r:Int},Z38_n (n+1) a0 a1=some r->∀(H:Heap),AC Tryz.prog 114 [.agg (Z7.c a0),.agg (Z7.c a1)] H fun v h'=>v=.a (.d (.int .i64 r))/\h'=H:=by
 intro a0 a1   r hE H ;rw [Z38_n] at hE;refine AC.oW 70 [.tmp 4] Tryz.call114 Tryz.func114 ?_;refine seqR (S BX (S BX (S As (nil ?_))));refine seqR (S Fv (S Ld (S Fv (S Ld ?_))));obtain⟨x3,gx3,hE⟩:=bO hE;refine Sc rfl rfl (Z44_walk gx3) ?_;refine S As (nil ?_);refine seqJH (TA 2 (TA 3 kN)) (fun(z:Int)=>[(5,.a (.d (.int .i64 z)))]) (fun z=>H) (fun z=>Z38_j4 a0 a1 (Z38_n n) z=some r) ?_ ?_
 ·intro K4 hK4;refine seqR (S Mv (S BI (nil ?_)));refine cE hE (fun hc42 hE=>?_) (fun hc42 hE=>?_)
  ·refine region ?_;refine S Fv (S Ld (S Fv (S Ld ?_)));obtain⟨x43,gx43,hE⟩:=bO hE;refine Sc rfl rfl (Z44_walk gx43) ?_;refine S As (nil ?_);exact hK4 _ x43 wA hE
  refine AWp.skip ?_;exact hK4 _ x3 wA hE
 rintro s5_5 hE;try dsimp only at hE
 unfold Z38_j4 at hE;refine seqJH (TA 2 (TA 3 kN)) (fun(z:Int)=>[(5,.a (.d (.int .i64 z)))]) (fun z=>H) (fun z=>Z38_j6 a0 a1 (Z38_n n) z=some r) ?_ ?_
 ·intro K6 hK6;refine seqR (S Mv (S BI (nil ?_)));refine cE hE (fun hc39 hE=>?_) (fun hc39 hE=>?_)
  ·refine region ?_;refine S Fv (S Ld (S Fv (S Ld ?_)));obtain⟨x40,gx40,hE⟩:=bO hE;refine Sc rfl rfl (Z47_walk gx40) ?_;refine S As (nil ?_);exact hK6 _ x40 wA hE
  refine AWp.skip ?_;exact hK6 _ s5_5 wA hE
 rintro s5_7 hE;try dsimp only at hE
 unfold Z38_j6 at hE;refine seqJH kN (fun(z:Int)=>[(5,.a (.d (.int .i64 z)))]) (fun z=>H) (fun z=>Z38_j8 z=some r) ?_ ?_
 ·intro K8 hK8;refine seqR (S As (nil ?_));refine block ?_;refine loopH (TA 2 (TA 3 kN)) (fun(z:Nat×Int×Int)=>[(5,.a (.d (.int .i64 z.2.1))),(6,.a (.d (.int .i64 z.2.2)))]) (fun z=>H) (fun z=>z.1) (fun z=>Z38_l12 a0 a1 (Z38_n n) z.1 z.2.1 z.2.2=some r) (F0,s5_7,(0:Int)) hE wA ?_;rintro ⟨n12,s5_13,s6_14⟩ hE K12 hK12;try dsimp only at hE
  cases n12 with
  | zero=>cases hE
  | succ n12 =>
    rw [Z38_l12] at hE;refine seqK fun K15 hK15=>?_;refine seqR (S Mv (S BI (nil ?_)));refine cE hE (fun hc17 hE=>?_) (fun hc17 hE=>?_)
    ·refine sk hK15 ?_;clear hK15 K15;refine seqJH (TA 2 (TA 3 (TA 6 kN))) (fun(z:Int)=>[(5,.a (.d (.int .i64 z)))]) (fun z=>H) (fun z=>Z38_j18 s6_14 ((Z38_l12 a0 a1 (Z38_n n) n12)) z=some r) ?_ ?_
     ·intro K18 hK18;refine block ?_;refine seqK fun K21 hK21=>?_;refine seqR (S Mv (S Fv ?_));refine s0 (loadV (TK rfl) rfl rfl (congrArg (fun x=>some (A.d x)) (Z7.FItemsD_eq _))) rfl ?_;refine sLen (f:=Z7.c) (s:=a0.FItems) (TK rfl) rfl rfl rfl rfl fun hL23=>?_;refine S BI (S Mv (G0 Mv (G0 Fv ?_)));refine gC rfl rfl (fun hC=>ungdA (k:=37) rfl (loadV (TK rfl) rfl rfl (congrArg (fun x=>some (A.d x)) (Z7.FItemsD_eq _)))) rfl ?_
      refine gC rfl rfl (fun hC=>ungdA (k:=38) rfl (lenM' (f:=Z7.c) (s:=a1.FItems) (TK rfl) rfl rfl rfl)) rfl ?_;refine G2 36 39 rfl rfl BI ?_;refine S PO (nil ?_);refine cE hE (fun hc24 hE=>?_) (fun hc24 hE=>?_)
      ·refine seqR (S Fv ?_);refine s0 (loadV (TK rfl) rfl rfl (congrArg (fun x=>some (A.d x)) (Z7.FItemsD_eq _))) rfl ?_;refine sLen (f:=Z7.c) (s:=a0.FItems) (TK rfl) rfl rfl rfl rfl fun hL26=>?_;refine S Fv ?_;refine s0 (loadV (TK rfl) rfl rfl (congrArg (fun x=>some (A.d x)) (Z7.FItemsD_eq _))) rfl ?_;refine sLen (f:=Z7.c) (s:=a1.FItems) (TK rfl) rfl rfl rfl rfl fun hL27=>?_;obtain⟨x28,gx28,hE⟩:=bO hE
       refine Sc rfl rfl (Z44_walk gx28) ?_;refine S As (nil ?_);exact rt hE
      refine sk hK21 ?_;clear hK21 K21;refine AWp.seqD (Sd Ld (Sd Mv ?_));obtain⟨x30,gx30,hE⟩:=bO hE;refine Scd rfl rfl (Z45_walk gx30) ?_;refine Sd Ld (Sd Mv ?_);obtain⟨x31,gx31,hE⟩:=bO hE;refine Scd rfl rfl (Z45_walk gx31) ?_;obtain⟨x32,gx32,hE⟩:=bO hE;refine Scd rfl rfl (Z47_walk gx32) ?_;refine Sd As ?_;refine DOps.nil (by decide +kernel) ?_;refine seqR (S Mv (S BI (nil ?_)));refine cE hE (fun hc34 hE=>?_) (fun hc34 hE=>?_)
      ·refine AWp.draw rfl ?_;refine Sd Fv ?_;refine DOps.s0 (loadV (TK rfl) rfl rfl (congrArg (fun x=>some (A.d x)) (Z7.FItemsD_eq _))) rfl ?_;refine Sd Mv ?_;obtain⟨x35,gx35,hE⟩:=bO hE;refine DOps.s0 (idxM (f:=Z7.c) (TK rfl) rfl (TK rfl) rfl rfl rfl gx35) rfl ?_;refine Sd Ld (Sd Fv ?_);refine DOps.s0 (loadV (TK rfl) rfl rfl (congrArg (fun x=>some (A.d x)) (Z7.FItemsD_eq _))) rfl ?_;refine Sd Mv ?_
       obtain⟨x36,gx36,hE⟩:=bO hE;refine DOps.s0 (idxM (f:=Z7.c) (TK rfl) rfl (TK rfl) rfl rfl rfl gx36) rfl ?_;refine Sd Ld ?_;obtain⟨x37,gx37,hE⟩:=bO hE;refine Scd rfl rfl (ih_114 gx37) ?_;refine Sd As ?_;refine DOps.nil (by decide +kernel) ?_;exact hK18 _ x37 wA hE
      refine AWp.skip ?_;exact hK18 _ x32 wA hE
     rintro s5_19 hE;try dsimp only at hE
     unfold Z38_j18 at hE;refine region ?_;refine S Mv ?_;obtain⟨x20,gx20,hE⟩:=bO hE;refine s0 (addM rfl rfl gx20) rfl ?_;refine S As (nil ?_);exact hK12 _ (n12,s5_19,x20) wA hE (nS _)
    refine AWp.exit ?_;exact hK8 _ s5_13 wA hE
 rintro s5_9 hE;try dsimp only at hE
 unfold Z38_j8 at hE;refine seqR (S Mv (S As (nil ?_)));exact rt hE
theorem Z38_all:∀(n:Nat),(∀{a0 a1:Z7}{r:Int},Z38_n n a0 a1=some r->∀(H:Heap),AC Tryz.prog 114 [.agg (Z7.c a0),.agg (Z7.c a1)] H fun v h'=>v=.a (.d (.int .i64 r))/\h'=H)
 | 0=>fun hE=>by first|cases hE|(rw [Z38_n] at hE; cases hE)
 | n+1=>Z38_step n (Z38_all n)
def Z38 (a0:Z7) (a1:Z7):Option Int:=Z38_n F0 a0 a1
theorem Z38_walk {a0 a1:Z7}{r:Int}(hE:Z38 a0 a1=some r) (H:Heap) :AC Tryz.prog 114 [.agg (Z7.c a0),.agg (Z7.c a1)] H fun v h'=>v=.a (.d (.int .i64 r))/\h'=H:=(Z38_all F0) hE H 
def Z41 (a0:Z7) (a1:Z7):Option Bool:=(Z38 a0 a1).bind fun x3=>some (decide (x3=(0:Int)))
theorem Z41_walk {a0 a1:Z7}{r:Bool}(hE:Z41 a0 a1=some r) (H:Heap) :AC Tryz.prog 80 [.agg (Z7.c a0),.agg (Z7.c a1)] H fun v h'=>v=.a (.d (.bool r))/\h'=H:=by
 unfold Z41 at hE;refine AC.oW 9 [.tmp 4] Tryz.call80 Tryz.func80 ?_;refine seqR (S BX (S BX (S As (nil ?_))));refine seqR (S Ld (S Ld ?_));obtain⟨x3,gx3,hE⟩:=bO hE;refine Sc rfl rfl (Z38_walk gx3) ?_;refine S BI (S As (nil ?_));exact rt hE
def Z72_j8  :Option Bool:=some true
def Z72_j17 (s5_12:Nat) (k_next_11:Nat->Option Bool) :Option Bool:=k_next_11 (s5_12+1)
def Z72_l27 (a0:(Sl TDir)) (a1:(Sl TDir)) (s5_12:Nat) (k_next_11:Nat->Option Bool):Nat->Nat->Option Bool
 | 0,_=>none
 | n27+1,s6_28=>(a0.l[s5_12]?).bind fun x31=>bif (decide (((s6_28:Nat):Int)<((x31.FArgs.l.length:Nat):Int))) then((a0.l[s5_12]?).bind fun x36=>(x36.FArgs.l[s6_28]?).bind fun x37=>(a1.l[s5_12]?).bind fun x38=>(x38.FArgs.l[s6_28]?).bind fun x39=>guardO (!(!(x37.FName==x39.FName))) (a0.l[s5_12]?) TDir.zero fun x40=>guardO (!(!(x37.FName==x39.FName))) (x40.FArgs.l[s6_28]?) TArg.zero fun x41=>guardO (!(!(x37.FName==x39.FName))) (a1.l[s5_12]?) TDir.zero fun x42=>guardO (!(!(x37.FName==x39.FName))) (x42.FArgs.l[s6_28]?) TArg.zero fun x43=>guardO (!(!(x37.FName==x39.FName))) (Z41 x41.FValue x43.FValue) false fun x44=>bif ((!(x37.FName==x39.FName))||(!x44)) then(some false) else((Z72_l27 a0 a1 s5_12 k_next_11 n27) (s6_28+1))) else(Z72_j17 s5_12 k_next_11 )
def Z72_l11 (a0:(Sl TDir)) (a1:(Sl TDir)) :Nat->Nat->Option Bool
 | 0,_=>none
 | n11+1,s5_12=>bif (decide (((s5_12:Nat):Int)<((a0.l.length:Nat):Int))) then((a0.l[s5_12]?).bind fun x20=>(a1.l[s5_12]?).bind fun x21=>guardO (!(!(x20.FName==x21.FName))) (a0.l[s5_12]?) TDir.zero fun x22=>guardO (!(!(x20.FName==x21.FName))) (a1.l[s5_12]?) TDir.zero fun x23=>bif ((!(x20.FName==x21.FName))||(!decide (((x22.FArgs.l.length:Nat):Int)=((x23.FArgs.l.length:Nat):Int)))) then(some false) else(Z72_l27 a0 a1 s5_12 ((Z72_l11 a0 a1 n11)) (Option.elim (a0.l[s5_12]?) 1 (fun x31=>x31.FArgs.l.length+1)) 0)) else(Z72_j8   )
def Z72 (a0:(Sl TDir)) (a1:(Sl TDir)):Option Bool:=bif (!decide (((a0.l.length:Nat):Int)=((a1.l.length:Nat):Int))) then(some false) else(Z72_l11 a0 a1 (a0.l.length+1) 0)
theorem Z72_walk {a0 a1:Sl TDir}{w0 w1:Option Nat}{r:Bool}(hE:Z72 a0 a1=some r) (H:Heap) :AC Tryz.prog 45 [.d (Sl.d 2 TDir.c w0 a0),.d (Sl.d 2 TDir.c w1 a1)] H fun v h'=>v=.a (.d (.bool r))/\h'=H:=by
 unfold Z72 at hE;refine AC.oW 95 [.tmp 4] Tryz.call45 Tryz.func45 ?_;refine seqR (S As (nil ?_));refine seqK fun K2 hK2=>?_;refine seqR (S Mv ?_);refine sLen (f:=TDir.c) (s:=a0) (TK rfl) rfl rfl rfl rfl fun hL4=>?_;refine S Mv ?_;refine sLen (f:=TDir.c) (s:=a1) (TK rfl) rfl rfl rfl rfl fun hL5=>?_;refine S BI (nil ?_);refine cE hE (fun hc6 hE=>?_) (fun hc6 hE=>?_)
 ·refine seqR (S As (nil ?_));exact rt hE
 refine sk hK2 ?_;clear hK2 K2;refine seqJH kN (fun(z:Unit)=>[]) (fun z=>H) (fun z=>Z72_j8 =some r) ?_ ?_
 ·intro K8 hK8;refine seqR (S As (nil ?_));refine block ?_;refine loopH (TA 0 (TA 1 kN)) (fun(z:Nat×Nat)=>[(5,.a (.d (.int .i64 ((z.2:Nat):Int))))]) (fun z=>H) (fun z=>z.1) (fun z=>Z72_l11 a0 a1 z.1 z.2=some r) ((a0.l.length+1),0) hE wA ?_;rintro ⟨n11,s5_12⟩ hE K11 hK11;try dsimp only at hE
  cases n11 with
  | zero=>cases hE
  | succ n11 =>
    rw [Z72_l11] at hE;refine seqK fun K13 hK13=>?_;refine seqR (S Mv (S Mv ?_));refine sLen (f:=TDir.c) (s:=a0) (TK rfl) rfl rfl rfl rfl fun hL15=>?_;refine S BI (nil ?_);refine cE hE (fun hc16 hE=>?_) (fun hc16 hE=>?_)
    ·try dsimp only at hc16
     have hf16:=oD hc16;refine sk hK13 ?_;clear hK13 K13;refine seqJH (TA 0 (TA 1 (TA 5 kN))) (fun(z:Unit)=>[]) (fun z=>H) (fun z=>Z72_j17 s5_12 ((Z72_l11 a0 a1 n11)) =some r) ?_ ?_
     ·intro K17 hK17;refine block ?_;refine seqK fun K18 hK18=>?_;refine AWp.seqD (Sd Mv (Sd Mv ?_));obtain⟨x20,gx20,hE⟩:=bO hE;refine Sd (ix TDir.c s5_12 gx20) (Sd Fv (Sd Ld (Sd Mv (Sd Mv ?_))));obtain⟨x21,gx21,hE⟩:=bO hE;refine Sd (ix TDir.c s5_12 gx21) (Sd Fv (Sd Ld (Sd BS (Sd Mv (G0d Mv (G0d Mv ?_))))));obtain⟨x22,gx22,hE⟩:=gO hE;refine DOps.gC rfl rfl (fun hC=>ungdA (k:=30) rfl (ungdA (k:=31) rfl (idxMn (f:=TDir.c) (n:=s5_12) (TK rfl) rfl (TK rfl) rfl rfl rfl (gx22 hC)))) rfl ?_
      refine G1d 32 rfl Fv ?_;refine G1d 33 rfl Ld ?_;refine DOps.gC rfl rfl (fun hC=>ungdA (k:=34) rfl (lenM' (f:=TArg.c) (s:=x22.FArgs) (TK rfl) rfl rfl rfl)) rfl ?_;refine G0d Mv (G0d Mv ?_);obtain⟨x23,gx23,hE⟩:=gO hE;refine DOps.gC rfl rfl (fun hC=>ungdA (k:=36) rfl (ungdA (k:=37) rfl (idxMn (f:=TDir.c) (n:=s5_12) (TK rfl) rfl (TK rfl) rfl rfl rfl (gx23 hC)))) rfl ?_;refine G1d 38 rfl Fv ?_;refine G1d 39 rfl Ld ?_
      refine DOps.gC rfl rfl (fun hC=>ungdA (k:=40) rfl (lenM' (f:=TArg.c) (s:=x23.FArgs) (TK rfl) rfl rfl rfl)) rfl ?_;refine G2d 35 41 rfl rfl BI ?_;refine Sd PO ?_;refine DOps.nil (by decide +kernel) ?_;refine cE hE (fun hc24 hE=>?_) (fun hc24 hE=>?_)
      ·refine seqR (S As (nil ?_));exact rt hE
      refine sk hK18 ?_;clear hK18 K18;refine seqR (S As (nil ?_));refine block ?_;refine loopH (TA 0 (TA 1 (TA 5 kN))) (fun(z:Nat×Nat)=>[(6,.a (.d (.int .i64 ((z.2:Nat):Int))))]) (fun z=>H) (fun z=>z.1) (fun z=>Z72_l27 a0 a1 s5_12 ((Z72_l11 a0 a1 n11)) z.1 z.2=some r) ((Option.elim (a0.l[s5_12]?) 1 (fun x31=>x31.FArgs.l.length+1)),0) hE wA ?_;rintro ⟨n27,s6_28⟩ hE K27 hK27;try dsimp only at hE
      cases n27 with
      | zero=>cases hE
      | succ n27 =>
        rw [Z72_l27] at hE;refine seqK fun K29 hK29=>?_;refine seqR (S Mv (S Mv (S Mv ?_)));obtain⟨x31,gx31,hE⟩:=bO hE;refine S (ix TDir.c s5_12 gx31) (S Fv (S Ld ?_));refine sLen (f:=TArg.c) (s:=x31.FArgs) (TK rfl) rfl rfl rfl rfl fun hL32=>?_;refine S BI (nil ?_);refine cE hE (fun hc33 hE=>?_) (fun hc33 hE=>?_)
        ·try dsimp only at hc33
         have hf33:=oD hc33;refine sk hK29 ?_;clear hK29 K29;refine seqK fun K34 hK34=>?_;refine block ?_;refine AWp.seqD (Sd Mv (Sd Mv ?_));obtain⟨x36,gx36,hE⟩:=bO hE;refine Sd (ix TDir.c s5_12 gx36) (Sd Fv (Sd Ld (Sd Mv ?_)));obtain⟨x37,gx37,hE⟩:=bO hE;refine Sd (ix TArg.c s6_28 gx37) (Sd Fv (Sd Ld (Sd Mv (Sd Mv ?_))));obtain⟨x38,gx38,hE⟩:=bO hE;refine Sd (ix TDir.c s5_12 gx38) (Sd Fv (Sd Ld (Sd Mv ?_)))
         obtain⟨x39,gx39,hE⟩:=bO hE;refine Sd (ix TArg.c s6_28 gx39) (Sd Fv (Sd Ld (Sd BS (Sd Mv (G0d Mv (G0d Mv ?_))))));obtain⟨x40,gx40,hE⟩:=gO hE;refine DOps.gC rfl rfl (fun hC=>ungdA (k:=74) rfl (ungdA (k:=75) rfl (idxMn (f:=TDir.c) (n:=s5_12) (TK rfl) rfl (TK rfl) rfl rfl rfl (gx40 hC)))) rfl ?_;refine G1d 76 rfl Fv ?_;refine G1d 77 rfl Ld ?_;refine G0d Mv ?_;obtain⟨x41,gx41,hE⟩:=gO hE;refine DOps.gC rfl rfl (fun hC=>ungdA (k:=78) rfl (ungdA (k:=79) rfl (idxMn (f:=TArg.c) (n:=s6_28) (TK rfl) rfl (TK rfl) rfl rfl rfl (gx41 hC)))) rfl ?_
         refine G1d 80 rfl Fv ?_;refine G1d 81 rfl Ld ?_;refine G0d Mv (G0d Mv ?_);obtain⟨x42,gx42,hE⟩:=gO hE;refine DOps.gC rfl rfl (fun hC=>ungdA (k:=83) rfl (ungdA (k:=84) rfl (idxMn (f:=TDir.c) (n:=s5_12) (TK rfl) rfl (TK rfl) rfl rfl rfl (gx42 hC)))) rfl ?_;refine G1d 85 rfl Fv ?_;refine G1d 86 rfl Ld ?_;refine G0d Mv ?_;obtain⟨x43,gx43,hE⟩:=gO hE;refine DOps.gC rfl rfl (fun hC=>ungdA (k:=87) rfl (ungdA (k:=88) rfl (idxMn (f:=TArg.c) (n:=s6_28) (TK rfl) rfl (TK rfl) rfl rfl rfl (gx43 hC)))) rfl ?_
         refine G1d 89 rfl Fv ?_;refine G1d 90 rfl Ld ?_;obtain⟨x44,gx44,hE⟩:=gO hE;refine Gc2d 82 91 rfl rfl rfl rfl rfl rfl (fun hC=>Z41_walk (gx44 hC)) ?_;refine G1d 92 rfl NB ?_;refine Sd PO ?_;refine DOps.nil (by decide +kernel) ?_;refine cE hE (fun hc45 hE=>?_) (fun hc45 hE=>?_)
         ·refine seqR (S As (nil ?_));exact rt hE
         refine sk hK34 ?_;clear hK34 K34;refine region ?_;refine S Mv ?_;refine SI ?_;refine S As (nil ?_);exact hK27 _ (n27,(s6_28+1)) wA hE (nS _)
        refine AWp.exit ?_;exact hK17 _ () wA hE
     rintro _ hE;try dsimp only at hE
     unfold Z72_j17 at hE;refine region ?_;refine S Mv ?_;refine SI ?_;refine S As (nil ?_);exact hK11 _ (n11,(s5_12+1)) wA hE (nS _)
    refine AWp.exit ?_;exact hK8 _ () wA hE
 rintro _ hE;try dsimp only at hE
 unfold Z72_j8 at hE;refine seqR (S As (nil ?_));exact rt hE
def Z80_j8  :Option Bool:=some true
def Z80_l11 (a0:(Sl Z5)) (a1:(Sl Z5)) :Nat->Nat->Option Bool
 | 0,_=>none
 | n11+1,s5_12=>bif (decide (((s5_12:Nat):Int)<((a0.l.length:Nat):Int))) then((a0.l[s5_12]?).bind fun x19=>(a1.l[s5_12]?).bind fun x20=>guardO (!(!(x19.FName==x20.FName))) (Z56 x19.FType x20.FType) false fun x22=>guardO (!(((!(x19.FName==x20.FName))||(!x22))||(!(x19.FHas==x20.FHas)))) (Z41 x19.FDefault x20.FDefault) false fun x23=>guardO (!((((!(x19.FName==x20.FName))||(!x22))||(!(x19.FHas==x20.FHas)))||(!x23))) (Z72 x19.FDirs x20.FDirs) false fun x24=>bif (((((!(x19.FName==x20.FName))||(!x22))||(!(x19.FHas==x20.FHas)))||(!x23))||(!x24)) then(some false) else((Z80_l11 a0 a1 n11) (s5_12+1))) else(Z80_j8   )
def Z80 (a0:(Sl Z5)) (a1:(Sl Z5)):Option Bool:=bif (!decide (((a0.l.length:Nat):Int)=((a1.l.length:Nat):Int))) then(some false) else(Z80_l11 a0 a1 (a0.l.length+1) 0)
theorem Z80_walk {a0 a1:Sl Z5}{w0 w1:Option Nat}{r:Bool}(hE:Z80 a0 a1=some r) (H:Heap) :AC Tryz.prog 47 [.d (Sl.d 10 Z5.c w0 a0),.d (Sl.d 10 Z5.c w1 a1)] H fun v h'=>v=.a (.d (.bool r))/\h'=H:=by
 unfold Z80 at hE;refine AC.oW 63 [.tmp 4] Tryz.call47 Tryz.func47 ?_;refine seqR (S As (nil ?_));refine seqK fun K2 hK2=>?_;refine seqR (S Mv ?_);refine sLen (f:=Z5.c) (s:=a0) (TK rfl) rfl rfl rfl rfl fun hL4=>?_;refine S Mv ?_;refine sLen (f:=Z5.c) (s:=a1) (TK rfl) rfl rfl rfl rfl fun hL5=>?_;refine S BI (nil ?_);refine cE hE (fun hc6 hE=>?_) (fun hc6 hE=>?_)
 ·refine seqR (S As (nil ?_));exact rt hE
 refine sk hK2 ?_;clear hK2 K2;refine seqJH kN (fun(z:Unit)=>[]) (fun z=>H) (fun z=>Z80_j8 =some r) ?_ ?_
 ·intro K8 hK8;refine seqR (S As (nil ?_));refine block ?_;refine loopH (TA 0 (TA 1 kN)) (fun(z:Nat×Nat)=>[(5,.a (.d (.int .i64 ((z.2:Nat):Int))))]) (fun z=>H) (fun z=>z.1) (fun z=>Z80_l11 a0 a1 z.1 z.2=some r) ((a0.l.length+1),0) hE wA ?_;rintro ⟨n11,s5_12⟩ hE K11 hK11;try dsimp only at hE
  cases n11 with
  | zero=>cases hE
  | succ n11 =>
    rw [Z80_l11] at hE;refine seqK fun K13 hK13=>?_;refine seqR (S Mv (S Mv ?_));refine sLen (f:=Z5.c) (s:=a0) (TK rfl) rfl rfl rfl rfl fun hL15=>?_;refine S BI (nil ?_);refine cE hE (fun hc16 hE=>?_) (fun hc16 hE=>?_)
    ·try dsimp only at hc16
     have hf16:=oD hc16;refine sk hK13 ?_;clear hK13 K13;refine seqK fun K17 hK17=>?_;refine block ?_;refine AWp.seqD (Sd Mv (Sd Mv ?_));obtain⟨x19,gx19,hE⟩:=bO hE;refine Sd (ix Z5.c s5_12 gx19) (Sd Ld (Sd Mv (Sd Mv ?_)));obtain⟨x20,gx20,hE⟩:=bO hE;refine Sd (ix Z5.c s5_12 gx20) (Sd Ld ?_);refine DOps.sB (TK rfl) rfl rfl ?_ (by repeat (first|exact Snoc.nil|apply Snoc.cons));refine DOps.sB (TK rfl) rfl rfl ?_ (by repeat (first|exact Snoc.nil|apply Snoc.cons))
     refine DOps.sLn (storeLFA (TK rfl) rfl rfl rfl rfl rfl) ?_;refine DOps.sLn (storeLFA (TK rfl) rfl rfl rfl rfl rfl) ?_;refine DOps.nil (by decide +kernel) ?_;refine freezeA 7 _ rfl (KA 0 (KA 1 (KA 5 (KA 6 Keeps.nil)))) ?_;refine freezeA 6 _ rfl (KA 0 (KA 1 (KA 5 (KA 7 Keeps.nil)))) ?_;refine seqR (S Fv (S Ld (S Fv (S Ld (S BS (S Mv (G0 Fv ?_)))))));refine G1 33 rfl Ld ?_;refine G0 Fv ?_;refine G1 35 rfl Ld ?_
     obtain⟨x22,gx22,hE⟩:=gO hE;refine Gc2 34 36 rfl rfl rfl rfl rfl rfl (fun hC=>Z56_walk (gx22 hC)) ?_;refine G1 37 rfl NB ?_;refine S PO (S Mv (G0 Fv ?_));refine G1 41 rfl Ld ?_;refine G0 Fv ?_;refine G1 43 rfl Ld ?_;refine gC rfl rfl (fun hC=>ungdA (k:=42) rfl (ungdA (k:=44) rfl (neB (TK rfl) rfl rfl rfl))) rfl ?_;refine S PO (S Mv (G0 Fv ?_));refine G1 48 rfl Ld ?_;refine G0 Fv ?_;refine G1 50 rfl Ld ?_
     obtain⟨x23,gx23,hE⟩:=gO hE;refine Gc2 49 51 rfl rfl rfl rfl rfl rfl (fun hC=>Z41_walk (gx23 hC)) ?_;refine G1 52 rfl NB ?_;refine S PO (S Mv (G0 Fv ?_));refine G1 56 rfl Ld ?_;refine G0 Fv ?_;refine G1 58 rfl Ld ?_;obtain⟨x24,gx24,hE⟩:=gO hE;refine Gc2 57 59 rfl rfl rfl rfl rfl rfl (fun hC=>Z72_walk (gx24 hC)) ?_;refine G1 60 rfl NB ?_;refine S PO (nil ?_);refine cE hE (fun hc25 hE=>?_) (fun hc25 hE=>?_)
     ·refine seqR (S As (nil ?_));exact rt hE
     refine sk hK17 ?_;clear hK17 K17;refine region ?_;refine S Mv ?_;refine SI ?_;refine S As (nil ?_);exact hK11 _ (n11,(s5_12+1)) wA hE (nS _)
    refine AWp.exit ?_;exact hK8 _ () wA hE
 rintro _ hE;try dsimp only at hE
 unfold Z80_j8 at hE;refine seqR (S As (nil ?_));exact rt hE
end Go.Proofs
