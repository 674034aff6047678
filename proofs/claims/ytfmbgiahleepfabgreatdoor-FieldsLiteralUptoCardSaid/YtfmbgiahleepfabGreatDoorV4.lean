import Derived.Test.YtfmbgiahleepfabGreatDoorV3
set_option maxRecDepth 100000
set_option maxHeartbeats 2000000
set_option linter.unusedVariables false
set_option linter.unusedSimpArgs false
namespace Go.Proofs
open Go Go.Ab
open AOps Cert AWp Keeps KeepsT
variable {lou:Lou}
def Z20 (a0:Z9) (a1:Int):Option (Z9×Int):=bif (!decide (a1=(0:Int))) then(some ((Z9.mk (0:Int) (0:Int) ([]:Bs) true ([]) (Sl.nil:Sl Bs)),a1)) else((value_Copy a0).bind fun x7=>some (x7,(0:Int)))
theorem Z20_walk {a0:Z9}{a1:Int}{r:Z9×Int}(hE:Z20 a0 a1=some r) (H:Heap) :ACalls Tryz.prog 37 [.agg (Z9.c a0),.d (.int .i64 a1)] H fun v h'=>v=.tup [.agg (Z9.c r.1),.d (.int .i64 r.2)]/\h'=H:=by
 unfold Z20 at hE;refine ACalls.oW 12 [.cell 4 31,.tmp 5] Tryz.call37 Tryz.func37 ?_;refine seqR (S BX ?_);refine Sl ?_;refine S As (nil ?_);refine seqK fun K2 hK2=>?_;refine seqR (S Mv (S BI (nil ?_)));refine cE hE (fun hc4 hE=>?_) (fun hc4 hE=>?_)
 ·refine seqR (S BU (S Mv ?_));refine Sf ?_;refine S As (nil ?_);exact rt hE
 refine sk hK2 ?_;clear hK2 K2;refine seqR (S Ld ?_);obtain⟨x7,gx7,hE⟩:=bO hE;refine Sc rfl rfl (value_Copy_walk gx7) ?_;refine Sf ?_;refine S As (nil ?_);exact rt hE
def Z13 (a0:Z0) (a1:Int):Option (Int×Z0):=bif (decide ((24:Int)<a1)) then(some ((5:Int),a0)) else((addC a0.Fnodes (1:Int)).bind fun x7=>bif (decide ((4096:Int)<x7)) then(some ((4:Int),(Z0.mk a0.Fd a0.Fvars a0.Fliteral x7))) else(some ((0:Int),(Z0.mk a0.Fd a0.Fvars a0.Fliteral x7))))
theorem Z13_walk {a0:Z0}{a1:Int}{c0:Nat}{r:Int×Z0}(hE:Z13 a0 a1=some r) (H:Heap) (hc0:H c0=some (.cells (Z0.c a0))):ACalls Tryz.prog 66 [.d (.ptr c0 0),.d (.int .i64 a1)] H fun v h'=>v=.a (.d (.int .i64 r.1))/\h'=(H.set c0 (some (.cells (Z0.c r.2)))):=by
 unfold Z13 at hE;refine ACalls.oW 19 [.tmp 4] Tryz.call66 Tryz.func66 ?_;refine AWp.heqA (h':=(H.set c0 (some (.cells (Z0.c a0))))) (by funext n_; simp only [Heap.set]; (repeat' split)<;>simp_all) ?_;refine seqR (S As (nil ?_));refine seqK fun K2 hK2=>?_;refine seqR (S Mv (S BI (nil ?_)));refine cE hE (fun hc4 hE=>?_) (fun hc4 hE=>?_)
 ·refine seqR (S As (nil ?_));exact rt hE
 refine sk hK2 ?_;clear hK2 K2;refine seqR (S Mv (S NP ?_));refine s0 (fieldP (TK rfl) rfl rfl (TK rfl) rfl rfl) rfl ?_;refine s0 (loadP (TK rfl) rfl rfl hpG rfl) rfl ?_;obtain⟨x7,gx7,hE⟩:=bO hE;refine s0 (addM rfl rfl gx7) rfl ?_;refine S NP ?_;refine s0 (fieldP (TK rfl) rfl rfl (TK rfl) rfl rfl) rfl ?_;refine sHn (storeP1 (TK rfl) rfl rfl hpG rfl (by repeat (first|exact SetAt.zero|apply SetAt.succ))) rfl rfl ?_
 refine hq (H.set c0 (some (.cells (Z0.c (Z0.mk a0.Fd a0.Fvars a0.Fliteral x7))))) ?_;refine nil ?_;refine seqK fun K8 hK8=>?_;refine seqR (S Mv (S NP ?_));refine s0 (fieldP (TK rfl) rfl rfl (TK rfl) rfl rfl) rfl ?_;refine s0 (loadP (TK rfl) rfl rfl hpG rfl) rfl ?_;refine S BI (nil ?_);refine cE hE (fun hc10 hE=>?_) (fun hc10 hE=>?_)
 ·refine seqR (S As (nil ?_));exact rt hE
 refine sk hK8 ?_;clear hK8 K8;refine seqR (S As (nil ?_));exact rt hE
def Z19_j8  (y9_c0:Z0):Option (Int×Z0):=some ((0:Int),y9_c0)
def Z19_l13 (a1:Z9) (a2:Int) (k_rec_65:Z0->Z9->Int->Option (Int×Z0)):Nat->Nat->Z0->Option (Int×Z0)
 | 0,_,_=>none
 | n13+1,s20_14,y15_c0=>bif (decide (((s20_14:Nat):Int)<((a1.FItems.l.length:Nat):Int))) then((a1.FItems.l[s20_14]?).bind fun x21=>(addC a2 (1:Int)).bind fun x23=>(k_rec_65 y15_c0 x21 x23).bind fun x24=>bif (!decide (x24.1=(0:Int))) then(some (x24.1,x24.2)) else((Z19_l13 a1 a2 k_rec_65 n13) (s20_14+1) x24.2)) else(Z19_j8   y15_c0)
def Z19_n:Nat->Z0->Z9->Int->Option (Int×Z0)
 | 0,_,_,_=>none
 | n+1,a0,a1,a2=>(Z13 a0 a2).bind fun x4=>bif (!decide (x4.1=(0:Int))) then(some (x4.1,x4.2)) else(Z19_l13 a1 a2 (Z19_n n) (a1.FItems.l.length+1) 0 x4.2)
theorem Z19_step (n:Nat) (ih_65:∀{a0:Z0}{a1:Z9}{a2:Int}{c0:Nat}{r:Int×Z0},Z19_n n a0 a1 a2=some r->∀(H:Heap) (hc0:H c0=some (.cells (Z0.c a0))),ACalls Tryz.prog 65 [.d (.ptr c0 0),.agg (Z9.c a1),.d (.int .i64 a2)] H fun v h'=>v=.a (.d (.int .i64 r.1))/\h'=(H.set c0 (some (.cells (Z0.c r.2))))):∀{a0:Z0}{a1:Z9}{a2:Int}{c0:Nat}{r:Int×Z0},Z19_n (n+1) a0 a1 a2=some r->∀(H:Heap) (hc0:H c0=some (.cells (Z0.c a0))),ACalls Tryz.prog 65 [.d (.ptr c0 0),.agg (Z9.c a1),.d (.int .i64 a2)] H fun v h'=>v=.a (.d (.int .i64 r.1))/\h'=(H.set c0 (some (.cells (Z0.c r.2)))):=by
 intro a0 a1 a2  c0 r hE H hc0;rw [Z19_n] at hE;refine ACalls.oW 33 [.tmp 6] Tryz.call65 Tryz.func65 ?_;refine AWp.heqA (h':=(H.set c0 (some (.cells (Z0.c a0))))) (by funext n_; simp only [Heap.set]; (repeat' split)<;>simp_all) ?_;refine seqR (S BX (S As (nil ?_)));refine seqK fun K2 hK2=>?_;refine seqR (S Mv (S Mv ?_));obtain⟨x4,gx4,hE⟩:=bO hE;refine sH (callH rfl rfl (Z13_walk gx4 _ hpG)) rfl ?_
 refine hq (H.set c0 (some (.cells (Z0.c x4.2)))) ?_;refine S As (nil ?_);refine seqR (S Mv (S BI (nil ?_)));refine cE hE (fun hc6 hE=>?_) (fun hc6 hE=>?_)
 ·refine seqR (S Mv (S As (nil ?_)));exact rt hE
 refine sk hK2 ?_;clear hK2 K2;refine seqJH KeepsT.nil (fun(z:Z0)=>[]) (fun z=>(H.set c0 (some (.cells (Z0.c z))))) (fun z=>Z19_j8 z=some r) ?_ ?_
 ·intro K8 hK8;refine seqR (S Fv ?_);refine s0 (loadV (TK rfl) rfl rfl (congrArg (fun x=>some (A.d x)) (Z9.FItemsD_eq _))) rfl ?_;refine sLen (f:=Z9.c) (s:=a1.FItems) (TK rfl) rfl rfl rfl rfl fun hL12=>?_;refine S Mv (nil ?_);refine block ?_;refine loopH (TA 0 (TA 2 (TA 18 (TA 19 KeepsT.nil)))) (fun(z:Nat×Nat×Z0)=>[(20,.a (.d (.int .i64 ((z.2.1:Nat):Int))))]) (fun z=>(H.set c0 (some (.cells (Z0.c z.2.2))))) (fun z=>z.1) (fun z=>Z19_l13 a1 a2 (Z19_n n) z.1 z.2.1 z.2.2=some r) ((a1.FItems.l.length+1),0,x4.2) hE Weak.toA ?_
  rintro ⟨n13,s20_14,y15_c0⟩ hE K13 hK13;try dsimp only at hE
  cases n13 with
  | zero=>cases hE
  | succ n13 =>
    rw [Z19_l13] at hE;refine seqR (S BI (nil ?_));refine seqK fun K17 hK17=>?_;refine cE hE (fun hc18 hE=>?_) (fun hc18 hE=>?_)
    ·try dsimp only at hc18
     have hf18:=of_decide_eq_true hc18;refine sk hK17 ?_;clear hK17 K17;refine seqK fun K19 hK19=>?_;refine block ?_;refine seqR ?_;obtain⟨x21,gx21,hE⟩:=bO hE;refine S (ix Z9.c s20_14 gx21) (S Ld ?_);refine Sl ?_;refine Sf ?_;refine nil ?_;refine freezeA 9 _ rfl (KA 0 (KA 2 (KA 18 (KA 19 (KA 20 Keeps.nil))))) ?_;refine seqR (S Mv (S Ld (S Mv ?_)));obtain⟨x23,gx23,hE⟩:=bO hE;refine s0 (addM rfl rfl gx23) rfl ?_
     obtain⟨x24,gx24,hE⟩:=bO hE;refine sH (callH rfl rfl (ih_65 gx24 _ hpG)) rfl ?_;refine hq (H.set c0 (some (.cells (Z0.c x24.2)))) ?_;refine S As (nil ?_);refine seqR (S Mv (S BI (nil ?_)));refine cE hE (fun hc26 hE=>?_) (fun hc26 hE=>?_)
     ·refine seqR (S Mv (S As (nil ?_)));exact rt hE
     refine sk hK19 ?_;clear hK19 K19;refine region ?_;refine SI ?_;refine S Mv (nil ?_);exact hK13 _ (n13,(s20_14+1),x24.2) Weak.toA hE (Nat.lt_succ_self _)
    refine AWp.exit ?_;exact hK8 _ y15_c0 Weak.toA hE
 rintro y9_c0 hE;try dsimp only at hE
 unfold Z19_j8 at hE;refine seqR (S As (nil ?_));exact rt hE
theorem Z19_all:∀(n:Nat),(∀{a0:Z0}{a1:Z9}{a2:Int}{c0:Nat}{r:Int×Z0},Z19_n n a0 a1 a2=some r->∀(H:Heap) (hc0:H c0=some (.cells (Z0.c a0))),ACalls Tryz.prog 65 [.d (.ptr c0 0),.agg (Z9.c a1),.d (.int .i64 a2)] H fun v h'=>v=.a (.d (.int .i64 r.1))/\h'=(H.set c0 (some (.cells (Z0.c r.2)))))
 | 0=>fun hE=>by first|cases hE|(rw [Z19_n] at hE; cases hE)
 | n+1=>Z19_step n (Z19_all n)
def Z19 (a0:Z0) (a1:Z9) (a2:Int):Option (Int×Z0):=Z19_n F0 a0 a1 a2
theorem Z19_walk {a0:Z0}{a1:Z9}{a2:Int}{c0:Nat}{r:Int×Z0}(hE:Z19 a0 a1 a2=some r) (H:Heap) (hc0:H c0=some (.cells (Z0.c a0))):ACalls Tryz.prog 65 [.d (.ptr c0 0),.agg (Z9.c a1),.d (.int .i64 a2)] H fun v h'=>v=.a (.d (.int .i64 r.1))/\h'=(H.set c0 (some (.cells (Z0.c r.2)))):=(Z19_all F0) hE H hc0
def Z18 (a0:Z9) (a1:Bool) (a2:Z0):Option Z0:=some (Z0.mk a2.Fd a0 a1 a2.Fnodes)
theorem Z18_walk {a0:Z9}{a1:Bool}{a2:Z0}{c2:Nat}{r:Z0}(hE:Z18 a0 a1 a2=some r) (H:Heap) (hc2:H c2=some (.cells (Z0.c a2))):ACallsD Tryz.prog 99 [.d (.view (Z9.c a0)),.d (.view (boolE a1)),.d (.view [.ptr c2 0])] H fun v h'=>v=.tup []/\h'=(H.set c2 (some (.cells (Z0.c r)))):=by
 unfold Z18 at hE;refine ACallsD.of_wp (fn:=Tryz.f99) (c:=_) Tryz.tab_ok (fun _ _=>Tryz.call99 _ _) Tryz.func99 rfl (n:=11) rfl (rs:=[]) rfl rfl ?_;refine AWp.heqA (h':=(H.set c2 (some (.cells (Z0.c a2))))) (by funext n_; simp only [Heap.set]; (repeat' split)<;>simp_all) ?_;refine region ?_;refine S Ld (S Ld (S Ld (S Ld (S NP ?_))));refine s0 (fieldP (TK rfl) rfl rfl (TK rfl) rfl rfl) rfl ?_;refine sHn (storeP' (TK rfl) rfl rfl hpG rfl (Nat.le_of_ble_eq_true rfl) rfl rfl) rfl rfl ?_
 refine hq (H.set c2 (some (.cells (Z0.c (Z0.mk a2.Fd a0 a2.Fliteral a2.Fnodes))))) ?_;refine S NP ?_;refine s0 (fieldP (TK rfl) rfl rfl (TK rfl) rfl rfl) rfl ?_;refine sHn (storeP1 (TK rfl) rfl rfl hpG rfl (by repeat (first|exact SetAt.zero|apply SetAt.succ))) rfl rfl ?_;refine hq (H.set c2 (some (.cells (Z0.c (Z0.mk a2.Fd a0 a1 a2.Fnodes))))) ?_;refine nil ?_;repeat (first|refine xBlock_normal ?_|refine xThen_exit ?_|refine xBlock_exit ?_)
 obtain rfl:=Option.some.inj hE;refine retQ.normalF (H.set c2 (some (.cells (Z0.c (Z0.mk a2.Fd a0 a1 a2.Fnodes))))) (xs:=[]) rfl ⟨rfl,rfl⟩ ?_;exact(fun _ _ h=>h)
def Z109 (a0:Bs):Option Z9:=some (Z9.mk (3:Int) (0:Int) a0 true ([]) (Sl.nil:Sl Bs))
theorem Z109_walk {a0:Bs}{r:Z9}(hE:Z109 a0=some r) (H:Heap) :ACalls Tryz.prog 91 [.d (.str a0)] H fun v h'=>v=.a (.agg (Z9.c r))/\h'=H:=by
 unfold Z109 at hE;refine ACalls.oW 5 [.cell 2 31] Tryz.call91 Tryz.func91 ?_;refine seqR ?_;refine Sl ?_;refine nil ?_;refine seqR (S Mv (S BU ?_));refine Sf ?_;refine nil ?_;exact rt hE
def Tryz.lay100_ren:Go.Shelf.Ren:=⟨fun|171=>100|243=>106|246=>111|283=>113|284=>114|285=>115|286=>116|129=>118|317=>117|318=>119|319=>120|320=>121|337=>122|338=>123|n=>n,fun|3=>3|9=>9|2=>2|4=>4|171=>159|0=>0|53=>160|37=>163|5=>5|173=>164|212=>168|51=>169|20=>20|213=>170|46=>172|232=>175|233=>176|n=>n,fun|17=>0|18=>1|19=>2|n=>n⟩
theorem Tryz.lay100:Go.Proofs.LaysM.n171 Tryz.prog Tryz.lay100_ren:={
 mixed:=by kernel_rfl
 f129:=Tryz.func118.trans (congrArg some (by kernel_rfl))
 f171:=Tryz.func100.trans (congrArg some (by kernel_rfl))
 f243:=Tryz.func106.trans (congrArg some (by kernel_rfl))
 f246:=Tryz.func111.trans (congrArg some (by kernel_rfl))
 f283:=Tryz.func113.trans (congrArg some (by kernel_rfl))
 f284:=Tryz.func114.trans (congrArg some (by kernel_rfl))
 f285:=Tryz.func115.trans (congrArg some (by kernel_rfl))
 f286:=Tryz.func116.trans (congrArg some (by kernel_rfl))
 f317:=Tryz.func117.trans (congrArg some (by kernel_rfl))
 f318:=Tryz.func119.trans (congrArg some (by kernel_rfl))
 f319:=Tryz.func120.trans (congrArg some (by kernel_rfl))
 f320:=Tryz.func121.trans (congrArg some (by kernel_rfl))
 f337:=Tryz.func122.trans (congrArg some (by kernel_rfl))
 f338:=Tryz.func123.trans (congrArg some (by kernel_rfl))
 t0:=Tryz.underlying0
 a0:=Tryz.isAgg0
 z0:=Tryz.sizeOf0
 v0:=Tryz.zeroValue0
 t2:=Tryz.underlying2
 a2:=Tryz.isAgg2
 z2:=Tryz.sizeOf2
 v2:=Tryz.zeroValue2
 t3:=Tryz.underlying3
 a3:=Tryz.isAgg3
 z3:=Tryz.sizeOf3
 v3:=Tryz.zeroValue3
 t4:=Tryz.underlying4
 a4:=Tryz.isAgg4
 z4:=Tryz.sizeOf4
 v4:=Tryz.zeroValue4
 t5:=Tryz.underlying5
 a5:=Tryz.isAgg5
 z5:=Tryz.sizeOf5
 v5:=Tryz.zeroValue5
 t9:=Tryz.underlying9
 a9:=Tryz.isAgg9
 z9:=Tryz.sizeOf9
 v9:=Tryz.zeroValue9
 t20:=Tryz.underlying20
 a20:=Tryz.isAgg20
 z20:=Tryz.sizeOf20
 v20:=Tryz.zeroValue20
 t37:=Tryz.underlying163
 a37:=Tryz.isAgg163
 z37:=Tryz.sizeOf163
 v37:=Tryz.zeroValue163
 t46:=Tryz.underlying172
 a46:=Tryz.isAgg172
 z46:=Tryz.sizeOf172
 v46:=Tryz.zeroValue172
 t51:=Tryz.underlying169
 a51:=Tryz.isAgg169
 z51:=Tryz.sizeOf169
 v51:=Tryz.zeroValue169
 t53:=Tryz.underlying160
 a53:=Tryz.isAgg160
 z53:=Tryz.sizeOf160
 v53:=Tryz.zeroValue160
 t171:=Tryz.underlying159
 a171:=Tryz.isAgg159
 z171:=Tryz.sizeOf159
 v171:=Tryz.zeroValue159
 t173:=Tryz.underlying164
 a173:=Tryz.isAgg164
 z173:=Tryz.sizeOf164
 v173:=Tryz.zeroValue164
 t212:=Tryz.underlying168
 a212:=Tryz.isAgg168
 z212:=Tryz.sizeOf168
 v212:=Tryz.zeroValue168
 t213:=Tryz.underlying170
 a213:=Tryz.isAgg170
 z213:=Tryz.sizeOf170
 t232:=Tryz.underlying175
 a232:=Tryz.isAgg175
 z232:=Tryz.sizeOf175
 v232:=Tryz.zeroValue175
 t233:=Tryz.underlying176
 a233:=Tryz.isAgg176
 z233:=Tryz.sizeOf176
 v233:=Tryz.zeroValue176
 g17:=by kernel_rfl
 g18:=by kernel_rfl
 g19:=by kernel_rfl
 i0:=by kernel_rfl
 i2:=by kernel_rfl
 i3:=by kernel_rfl
 i4:=by kernel_rfl
 i5:=by kernel_rfl
 i9:=by kernel_rfl
 i20:=by kernel_rfl
 i37:=by kernel_rfl
 i46:=by kernel_rfl
 i51:=by kernel_rfl
 i53:=by kernel_rfl
 i171:=by kernel_rfl
 i173:=by kernel_rfl
 i212:=by kernel_rfl
 i232:=by kernel_rfl
 i233:=by kernel_rfl
 m17:=by kernel_rfl
 m18:=by kernel_rfl
 m19:=by kernel_rfl }
def Z97 (n:Int):Option Bs:=if -9223372036854775808<=n/\n<=9223372036854775807/\(Lib.itoa n).length<=maxS then some (Lib.itoa n) else none
def Z97_q (n:Int):Option Bs:=Z97 n
theorem Z97_eq (n:Int):Z97 n=Z97_q n:=rfl
theorem Z97_walk {a0:Int}{oT:Ab.Obj}{gT:Nat}{r:Bs}(hE:Z97 a0=some r) (H:Heap) (hgT:H gT=some oT) (hoT:IsTab Tryz.prog oT):ACalls Tryz.prog 100 [.d (.int .i64 a0)] H fun v h'=>v=.a (.d (.str r))/\h'=H:=by
 unfold Z97 at hE
 split at hE
 ·rename_i h
  obtain rfl:=Option.some.inj hE;exact itoa_calls Tryz.lay100 h.1 h.2.1 rfl hgT hoT h.2.2
 cases hE
def Z99 (a0:Int):Option Bs:=(Z97 a0).bind fun x3=>some x3
theorem Z99_walk {a0:Int}{oT:Ab.Obj}{gT:Nat}{r:Bs}(hE:Z99 a0=some r) (H:Heap) (hgT:H gT=some oT) (hoT:IsTab Tryz.prog oT):ACalls Tryz.prog 92 [.d (.int .i64 a0)] H fun v h'=>v=.a (.d (.str r))/\h'=H:=by
 unfold Z99 at hE;refine ACalls.oW 5 [.tmp 2] Tryz.call92 Tryz.func92 ?_;refine seqR (S As (nil ?_));refine seqR (S Mv ?_);obtain⟨x3,gx3,hE⟩:=bO hE;refine s0 (callR rfl rfl (Z97_walk (gT:=gT) (oT:=oT) gx3 _ hpG (by assumption))) rfl ?_;refine S As (nil ?_);exact rt hE
def Z15 (a0:Z7) (a1:Z9):Option Bool:=some ((a0.FName==a1.FText))
theorem Z15_walk {a0:Z7}{a1:Z9}{r:Bool}(hE:Z15 a0 a1=some r) (H:Heap) :ACalls Tryz.prog 94 [.agg (Z7.c a0),.d (.view (Z9.c a1))] H fun v h'=>v=.a (.d (.bool r))/\h'=H:=by
 unfold Z15 at hE;refine ACalls.oW 9 [.tmp 3] Tryz.call94 Tryz.func94 ?_;refine seqR (S BX (S As (nil ?_)));refine seqR (S Fv (S Ld (S Fv (S Ld (S BS (S As (nil ?_)))))));exact rt hE
def Z14_j3  (s8_4:Bool) (y5_l0:Z9):Option (Z9×Int):=bif (!s8_4) then(some ((Z9.mk (0:Int) (0:Int) ([]:Bs) true ([]) (Sl.nil:Sl Bs)),(23:Int))) else(some (y5_l0,(0:Int)))
def Z14_j20  (y21_l0:Z9):Option (Z9×Int):=Z14_j3   (decide (y21_l0.FKind=(3:Int))) y21_l0
def Z14_j26 (a0:Z0) (a1:Bs)  (y27_l0:Z9):Option (Z9×Int):=(Z69 a0.Fd a1).bind fun x29=>guardO ((decide (y27_l0.FKind=(4:Int)))) (Z89 x29.1.FMembers (fun y0=>Z15 y0 y27_l0)) false fun x30=>bif (!((decide (y27_l0.FKind=(4:Int)))&&x30)) then(some ((Z9.mk (0:Int) (0:Int) ([]:Bs) true ([]) (Sl.nil:Sl Bs)),(23:Int))) else(some (y27_l0,(0:Int)))
def Z14 (a0:Z0) (a1:Bs) (a2:Z9):Option (Z9×Int):=bif ((a1==([73,110,116]:Bs))) then(Z14_j3   (((decide (a2.FKind=(2:Int)))&&(decide ((-2147483648:Int)<=a2.FInt)))&&(decide (a2.FInt<(2147483648:Int)))) a2) else(bif ((a1==([83,116,114,105,110,103]:Bs))) then(Z14_j3   (decide (a2.FKind=(3:Int))) a2) else(bif ((a1==([66,111,111,108,101,97,110]:Bs))) then(Z14_j3   (decide (a2.FKind=(1:Int))) a2) else(bif ((a1==([73,68]:Bs))) then(bif (decide (a2.FKind=(2:Int))) then((Z99 a2.FInt).bind fun x24=>(Z109 x24).bind fun x25=>Z14_j20   x25) else(Z14_j20   a2)) else(bif ((decide (a2.FKind=(3:Int)))&&(!a0.Fliteral)) then(Z14_j26 a0 a1  (Z9.mk (4:Int) a2.FInt a2.FText a2.FItems.nl a2.FItems.l a2.FKeys)) else(Z14_j26 a0 a1  a2)))))
theorem Z14_walk {a0:Z0}{a1:Bs}{a2:Z9}{oT:Ab.Obj}{c0 gT:Nat}{r:Z9×Int}(hE:Z14 a0 a1 a2=some r) (H:Heap) (hc0:H c0=some (.cells (Z0.c a0))) (hgT:H gT=some oT) (hoT:IsTab Tryz.prog oT):ACalls Tryz.prog 71 [.d (.ptr c0 0),.d (.str a1),.agg (Z9.c a2)] H fun v h'=>v=.tup [.agg (Z9.c r.1),.d (.int .i64 r.2)]/\h'=H:=by
 unfold Z14 at hE;refine ACalls.oW 82 [.cell 6 31,.tmp 7] Tryz.call71 Tryz.func71 ?_;refine seqR ?_;refine sL (boxL rfl (by repeat (first|exact Snoc.nil|apply Snoc.cons))) rfl ?_;refine Sl ?_;refine S As (nil ?_);refine seqR (S As (nil ?_));refine AWp.seqJD (TA 5 (TA 6 KeepsT.nil)) (fun(z:Bool×Z9)=>[(8,.a (.d (.bool z.1)))]) (fun z=>[Z9.c z.2,Z9.c Z9.zero]) (fun z=>H) (fun z=>Z14_j3 z.1 z.2=some r) ?_ ?_
 ·intro K3 hK3 hD3;refine seqR (S Mv (nil ?_));refine block ?_;refine seqR (S BS (S As (nil ?_)));refine cE hE (fun hc13 hE=>?_) (fun hc13 hE=>?_)
  ·refine region ?_;refine S FL (S LL (S BI (S Mv (G0 FL ?_))));refine gC rfl rfl (fun hC=>ungdLA (k:=47) rfl (loadL (TK rfl) rfl rfl rfl rfl)) rfl ?_;refine G1 48 rfl BI ?_;refine S PA (S Mv (G0 FL ?_));refine gC rfl rfl (fun hC=>ungdLA (k:=52) rfl (loadL (TK rfl) rfl rfl rfl rfl)) rfl ?_;refine G1 53 rfl BI ?_;refine S PA (S As (nil ?_));exact hK3 _ ((((decide (a2.FKind=(2:Int)))&&(decide ((-2147483648:Int)<=a2.FInt)))&&(decide (a2.FInt<(2147483648:Int)))),a2) Weak.toA hE
  refine seqR (S BS (S As (nil ?_)));refine cE hE (fun hc15 hE=>?_) (fun hc15 hE=>?_)
  ·refine region ?_;refine S FL (S LL (S BI (S As (nil ?_))));exact hK3 _ ((decide (a2.FKind=(3:Int))),a2) Weak.toA hE
  refine seqR (S BS (S As (nil ?_)));refine cE hE (fun hc17 hE=>?_) (fun hc17 hE=>?_)
  ·refine region ?_;refine S FL (S LL (S BI (S As (nil ?_))));exact hK3 _ ((decide (a2.FKind=(1:Int))),a2) Weak.toA hE
  refine seqR (S BS (S As (nil ?_)));refine cE hE (fun hc19 hE=>?_) (fun hc19 hE=>?_)
  ·refine seqJ (TA 5 (TA 6 KeepsT.nil)) (fun(z:Z9)=>[]) (fun z=>[Z9.c z,Z9.c Z9.zero]) (fun z=>H) (fun z=>Z14_j20 z=some r) ?_ ?_
   ·intro K20 hK20;refine seqR (S FL (S LL (S BI (nil ?_))));refine cE hE (fun hc23 hE=>?_) (fun hc23 hE=>?_)
    ·refine region ?_;refine S FL (S LL ?_);obtain⟨x24,gx24,hE⟩:=bO hE;refine s0 (callR rfl rfl (Z99_walk (gT:=gT) (oT:=oT) gx24 _ hpG (by assumption))) rfl ?_;obtain⟨x25,gx25,hE⟩:=bO hE;refine Sc rfl rfl (Z109_walk gx25) ?_;refine Sf ?_;refine nil ?_;exact hK20 _ x25 Weak.toA hE
    refine AWp.skip ?_;exact hK20 _ a2 Weak.toA hE
   rintro y21_l0 hE;try dsimp only at hE
   unfold Z14_j20 at hE;refine region ?_;refine S FL (S LL (S BI (S As (nil ?_))));exact hK3 _ ((decide (y21_l0.FKind=(3:Int))),y21_l0) Weak.toA hE
  refine seqJ (TA 0 (TA 1 (TA 5 (TA 6 KeepsT.nil)))) (fun(z:Z9)=>[]) (fun z=>[Z9.c z,Z9.c Z9.zero]) (fun z=>H) (fun z=>Z14_j26 a0 a1 z=some r) ?_ ?_
  ·intro K26 hK26;refine seqR (S FL (S LL (S BI (S Mv (G0 Mv ?_)))));refine G1 16 rfl NP ?_;refine gC rfl rfl (fun hC=>ungdA (k:=17) rfl (fieldP (TK rfl) rfl rfl (TK rfl) rfl rfl)) rfl ?_;refine gC rfl rfl (fun hC=>ungdA (k:=18) rfl (loadP (TK rfl) rfl rfl hpG rfl)) rfl ?_;refine G1 19 rfl NB ?_;refine S PA (nil ?_);refine cE hE (fun hc37 hE=>?_) (fun hc37 hE=>?_)
   ·refine region ?_;refine S FL ?_;refine AOps.relocal 0 (Z9.cu a2) rfl (fun j w cs hh hx=>by rw [<- Z9.cu_eq]; exact hx) ?_;refine Sf ?_;refine AOps.relocal 0 (Z9.c (Z9.mk (4:Int) a2.FInt a2.FText a2.FItems.nl a2.FItems.l a2.FKeys)) rfl (fun j w cs hh hx=>by rw [Z9.cu_eq]; exact hx) ?_;refine nil ?_;exact hK26 _ (Z9.mk (4:Int) a2.FInt a2.FText a2.FItems.nl a2.FItems.l a2.FKeys) Weak.toA hE
   refine AWp.skip ?_;exact hK26 _ a2 Weak.toA hE
  rintro y27_l0 hE;try dsimp only at hE
  unfold Z14_j26 at hE;refine seqR (S Mv (S NP ?_));refine s0 (fieldP (TK rfl) rfl rfl (TK rfl) rfl rfl) rfl ?_;refine s0 (loadP (TK rfl) rfl rfl hpG rfl) rfl ?_;refine S Mv ?_;obtain⟨x29,gx29,hE⟩:=bO hE;refine Sc rfl rfl (Z69_walk gx29) ?_;refine S Mv (S EX (S EX ?_));refine Sl ?_;refine Sf ?_;refine S As (nil ?_);refine freezeA 9 _ rfl (KA 5 (KA 6 Keeps.nil)) ?_;refine AWp.freezeAt 5 _ rfl rfl ?_
  refine region ?_;refine S Fv (S Ld (S BI (S Mv (G0 Fv ?_))));refine G1 36 rfl Ld ?_;refine gC rfl rfl (fun hC=>makeFunc rfl) rfl ?_;obtain⟨x30,gx30,hE⟩:=gO hE;refine gC rfl rfl (fun hC=>ungdA (k:=37) rfl (ungdA (k:=38) rfl (callP rfl rfl (fun H=>Z89_walk (gx30 hC) H (fun _ _ hx=>Z15_walk hx))))) rfl ?_;refine S PA (S As (nil ?_));refine hD3 _ ?_;refine seqK fun K31 hK31=>?_;refine seqR (S Mv (S NB (nil ?_)))
  refine cE hE (fun hc33 hE=>?_) (fun hc33 hE=>?_)
  ·refine seqR (S BU ?_);refine Sf ?_;refine S As (nil ?_);exact rt hE
  refine sk hK31 ?_;clear hK31 K31;refine seqR (S Ld ?_);refine Sf ?_;refine S As (nil ?_);exact rt hE
 rintro ⟨s8_4,y5_l0⟩ hE;try dsimp only at hE
 unfold Z14_j3 at hE;refine seqK fun K6 hK6=>?_;refine seqR (S Mv (S NB (nil ?_)));refine cE hE (fun hc8 hE=>?_) (fun hc8 hE=>?_)
 ·refine seqR (S BU ?_);refine Sf ?_;refine S As (nil ?_);exact rt hE
 refine sk hK6 ?_;clear hK6 K6;refine seqR (S LL ?_);refine Sf ?_;refine S As (nil ?_);exact rt hE
end Go.Proofs

namespace Go.Proofs
open Go Go.Ab
open AOps Cert AWp Keeps KeepsT
variable {lou:Lou}
def coerce_coercer_at_j7 (a1:TRef) (a3:Int) (k_rec_69:Z0->TRef->Z9->Int->Option (Z9×Int×Z0)) (k_rec_70:Z0->TDef->Z9->Int->Option (Z9×Int×Z0)) (y8_c0:Z0) (y9_l0:Z9) (y10_l1:Z9):Option (Z9×Int×Z0):=(Z13 y8_c0 a3).bind fun x13=>bif (!decide (x13.1=(0:Int))) then(some ((Z9.mk (0:Int) (0:Int) ([]:Bs) true ([]) (Sl.nil:Sl Bs)),x13.1,x13.2)) else(bif (decide (y9_l0.FKind=(0:Int))) then((Z104 a1).bind fun x22=>bif x22 then(some ((Z9.mk (0:Int) (0:Int) ([]:Bs) true ([]) (Sl.nil:Sl Bs)),(23:Int),x13.2)) else(some ((Z9.mk (0:Int) (0:Int) ([]:Bs) true ([]) (Sl.nil:Sl Bs)),(0:Int),x13.2))) else((Z102 a1).bind fun x28=>bif x28.2 then((k_rec_69 x13.2 x28.1 y9_l0 a3).bind fun x32=>some (x32.1,x32.2.1,x32.2.2)) else((Z69 x13.2.Fd a1.FName).bind fun x35=>guardO (x35.2) (Z74 a1.FName) false fun x37=>bif ((x35.2&&(!x37))&&(decide (x35.1.FKind=(5:Int)))) then((k_rec_70 x13.2 x35.1 y9_l0 a3).bind fun x40=>some (x40.1,x40.2.1,x40.2.2)) else((Z14 x13.2 a1.FName y9_l0).bind fun x42=>some (x42.1,x42.2,x13.2)))))
def coerce_coercer_list_j7  (y8_c0:Z0) (y9_l0:Z9) (y10_l1:Z9):Option (Z9×Int×Z0):=some (y10_l1,(0:Int),y8_c0)
def coerce_coercer_list_l14 (a1:TRef) (a3:Int) (s10_4:(Sl Z9)) (k_rec_38:Z0->TRef->Z9->Int->Option (Z9×Int×Z0)):Nat->Nat->Z0->Z9->Z9->Option (Z9×Int×Z0)
 | 0,_,_,_,_=>none
 | n14+1,s26_15,y16_c0,y17_l0,y18_l1=>bif (decide (((s26_15:Nat):Int)<((s10_4.l.length:Nat):Int))) then((s10_4.l[s26_15]?).bind fun x24=>(addC a3 (1:Int)).bind fun x26=>(k_rec_38 y16_c0 a1 x24 x26).bind fun x27=>bif (!decide (x27.2.1=(0:Int))) then(some ((Z9.mk (0:Int) (0:Int) ([]:Bs) true ([]) (Sl.nil:Sl Bs)),x27.2.1,x27.2.2)) else((appC 80 y18_l1.FItems (⟨false,[x27.1]⟩:Sl Z9)).bind fun x32=>(coerce_coercer_list_l14 a1 a3 s10_4 k_rec_38 n14) (s26_15+1) x27.2.2 y17_l0 (Z9.mk y18_l1.FKind y18_l1.FInt y18_l1.FText x32.nl x32.l y18_l1.FKeys))) else(coerce_coercer_list_j7   y16_c0 y17_l0 y18_l1)
def coerce_coercer_list_j3 (a0:Z0) (a1:TRef) (a3:Int) (k_rec_38:Z0->TRef->Z9->Int->Option (Z9×Int×Z0)) (s10_4:(Sl Z9)):Option (Z9×Int×Z0):=coerce_coercer_list_l14 a1 a3 s10_4 k_rec_38 (s10_4.l.length+1) 0 a0 Z9.zero (Z9.mk (5:Int) (0:Int) ([]:Bs) true ([]) (Sl.nil:Sl Bs))
def coerce_coercer_object_j11  (y12_c0:Z0) (y13_l0:Z9) (y14_l1:Z9):Option (Z9×Int×Z0):=some (y14_l1,(0:Int),y12_c0)
def coerce_coercer_object_j26 (s49_19:Nat) (k_next_18:Nat->Z0->Z9->Z9->Option (Z9×Int×Z0)) (y27_c0:Z0) (y28_l0:Z9) (y29_l1:Z9):Option (Z9×Int×Z0):=k_next_18 (s49_19+1) y27_c0 y28_l0 y29_l1
def coerce_coercer_object_j42 (s49_19:Nat) (y21_l0:Z9) (y22_l1:Z9) (x31:Z6) (k_next_18:Nat->Z0->Z9->Z9->Option (Z9×Int×Z0)) (s22_43:Int) (y44_c0:Z0) (y45_l2:Z9):Option (Z9×Int×Z0):=bif (!decide (s22_43=(0:Int))) then(some ((Z9.mk (0:Int) (0:Int) ([]:Bs) true ([]) (Sl.nil:Sl Bs)),s22_43,y44_c0)) else((appC 16 y22_l1.FKeys (⟨false,[x31.FName]⟩:Sl Bs)).bind fun x50=>(appC 80 y22_l1.FItems (⟨false,[y45_l2]⟩:Sl Z9)).bind fun x51=>coerce_coercer_object_j26 s49_19 k_next_18 y44_c0 y21_l0 (Z9.mk y22_l1.FKind y22_l1.FInt y22_l1.FText x51.nl x51.l x50))
def coerce_coercer_object_l18 (a1:TDef) (a2:Z9) (a3:Int) (k_rec_38:Z0->TRef->Z9->Int->Option (Z9×Int×Z0)) (k_rec_90:Z0->Z6->Int->Option (Z9×Int×Z0)):Nat->Nat->Z0->Z9->Z9->Option (Z9×Int×Z0)
 | 0,_,_,_,_=>none
 | n18+1,s49_19,y20_c0,y21_l0,y22_l1=>bif (decide (((s49_19:Nat):Int)<((a1.FInputs.l.length:Nat):Int))) then((a1.FInputs.l[s49_19]?).bind fun x31=>(partC a1.FInputs none (some ((s49_19:Nat):Int))).bind fun x34=>(Z70 x34 x31.FName).bind fun x35=>bif x35.2 then(coerce_coercer_object_j26 s49_19 ((coerce_coercer_object_l18 a1 a2 a3 k_rec_38 k_rec_90 n18)) y20_c0 y21_l0 y22_l1) else((Z108 a2 x31.FName).bind fun x39=>guardO (x39.2) (Z16 y20_c0 x39.1) false fun x53=>bif (x39.2&&(!x53)) then((addC a3 (1:Int)).bind fun x55=>(k_rec_38 y20_c0 x31.FType x39.1 x55).bind fun x56=>coerce_coercer_object_j42 s49_19 y21_l0 y22_l1 x31 ((coerce_coercer_object_l18 a1 a2 a3 k_rec_38 k_rec_90 n18)) x56.2.1 x56.2.2 x56.1) else(bif x31.FHas then((addC a3 (1:Int)).bind fun x59=>(k_rec_90 y20_c0 x31 x59).bind fun x60=>coerce_coercer_object_j42 s49_19 y21_l0 y22_l1 x31 ((coerce_coercer_object_l18 a1 a2 a3 k_rec_38 k_rec_90 n18)) x60.2.1 x60.2.2 x60.1) else((Z104 x31.FType).bind fun x62=>bif x62 then(coerce_coercer_object_j42 s49_19 y21_l0 y22_l1 x31 ((coerce_coercer_object_l18 a1 a2 a3 k_rec_38 k_rec_90 n18)) (22:Int) y20_c0 Z9.zero) else(coerce_coercer_object_j26 s49_19 ((coerce_coercer_object_l18 a1 a2 a3 k_rec_38 k_rec_90 n18)) y20_c0 y21_l0 y22_l1))))) else(coerce_coercer_object_j11   y20_c0 y21_l0 y22_l1)
def coerce_coercer_object_j6 (a0:Z0) (a1:TDef) (a2:Z9) (a3:Int) (k_rec_38:Z0->TRef->Z9->Int->Option (Z9×Int×Z0)) (k_rec_90:Z0->Z6->Int->Option (Z9×Int×Z0)) (y7_l0:Z9):Option (Z9×Int×Z0):=coerce_coercer_object_l18 a1 a2 a3 k_rec_38 k_rec_90 (a1.FInputs.l.length+1) 0 a0 y7_l0 (Z9.mk (6:Int) (0:Int) ([]:Bs) true ([]) (Sl.nil:Sl Bs))
def coerce_coercer_object_l66 (a0:Z0) (a1:TDef) (a2:Z9) (a3:Int) (k_rec_38:Z0->TRef->Z9->Int->Option (Z9×Int×Z0)) (k_rec_90:Z0->Z6->Int->Option (Z9×Int×Z0)):Nat->Nat->Z9->Option (Z9×Int×Z0)
 | 0,_,_=>none
 | n66+1,s30_67,y68_l0=>bif (decide (((s30_67:Nat):Int)<((a2.FKeys.l.length:Nat):Int))) then((a2.FKeys.l[s30_67]?).bind fun x74=>(Z70 a1.FInputs x74).bind fun x76=>bif (!x76.2) then(some ((Z9.mk (0:Int) (0:Int) ([]:Bs) true ([]) (Sl.nil:Sl Bs)),(22:Int),a0)) else((coerce_coercer_object_l66 a0 a1 a2 a3 k_rec_38 k_rec_90 n66) (s30_67+1) y68_l0)) else(coerce_coercer_object_j6 a0 a1 a2 a3 k_rec_38 k_rec_90 y68_l0)
mutual
def coerce_coercer_at_n:Nat->Z0->TRef->Z9->Int->Option (Z9×Int×Z0)
 | 0,_,_,_,_=>none
 | n+1,a0,a1,a2,a3=>(Z71 a0.Fd a1.FName).bind fun x4=>bif (!x4) then(some ((Z9.mk (0:Int) (0:Int) ([]:Bs) true ([]) (Sl.nil:Sl Bs)),(10:Int),a0)) else(bif ((decide (a2.FKind=(7:Int)))&&a0.Fliteral) then((Z108 a0.Fvars a2.FText).bind fun x46=>bif (!decide (x46.1.FKind=(0:Int))) then((Z19 a0 x46.1 a3).bind fun x50=>bif (!decide (x50.1=(0:Int))) then(some ((Z9.mk (0:Int) (0:Int) ([]:Bs) true ([]) (Sl.nil:Sl Bs)),x50.1,x50.2)) else(some (x46.1,(0:Int),x50.2))) else(coerce_coercer_at_j7 a1 a3 (coerce_coercer_list_n n) (coerce_coercer_object_n n) a0 x46.1 Z9.zero)) else(coerce_coercer_at_j7 a1 a3 (coerce_coercer_list_n n) (coerce_coercer_object_n n) a0 a2 Z9.zero))
def coerce_coercer_list_n:Nat->Z0->TRef->Z9->Int->Option (Z9×Int×Z0)
 | 0,_,_,_,_=>none
 | n+1,a0,a1,a2,a3=>bif (!decide (a2.FKind=(5:Int))) then(coerce_coercer_list_j3 a0 a1 a3 (coerce_coercer_at_n n) (⟨false,[a2]⟩:Sl Z9)) else(coerce_coercer_list_j3 a0 a1 a3 (coerce_coercer_at_n n) a2.FItems)
def coerce_coercer_object_n:Nat->Z0->TDef->Z9->Int->Option (Z9×Int×Z0)
 | 0,_,_,_,_=>none
 | n+1,a0,a1,a2,a3=>bif (!decide (a2.FKind=(6:Int))) then(some ((Z9.mk (0:Int) (0:Int) ([]:Bs) true ([]) (Sl.nil:Sl Bs)),(23:Int),a0)) else(coerce_coercer_object_l66 a0 a1 a2 a3 (coerce_coercer_at_n n) (Z17_n n) (a2.FKeys.l.length+1) 0 Z9.zero)
def Z17_n:Nat->Z0->Z6->Int->Option (Z9×Int×Z0)
 | 0,_,_,_=>none
 | n+1,a0,a1,a2=>((coerce_coercer_at_n n) (Z0.mk a0.Fd (Z9.mk (0:Int) (0:Int) ([]:Bs) true ([]) (Sl.nil:Sl Bs)) true a0.Fnodes) a1.FType a1.FDefault a2).bind fun x5=>(Z18 a0.Fvars a0.Fliteral x5.2.2).bind fun x6=>some (x5.1,x5.2.1,x6)
end
theorem coerce_coercer_at_step (n:Nat) (ih_38:∀{a0:Z0}{a1:TRef}{a2:Z9}{a3:Int}{oT:Ab.Obj}{c0 gT:Nat}{r:Z9×Int×Z0},coerce_coercer_at_n n a0 a1 a2 a3=some r->∀(H:Heap) (hc0:H c0=some (.cells (Z0.c a0))) (hgT:H gT=some oT) (hoT:IsTab Tryz.prog oT),ACalls Tryz.prog 38 [.d (.ptr c0 0),.agg (TRef.c a1),.agg (Z9.c a2),.d (.int .i64 a3)] H fun v h'=>v=.tup [.agg (Z9.c r.1),.d (.int .i64 r.2.1)]/\h'=(H.set c0 (some (.cells (Z0.c r.2.2))))) (ih_69:∀{a0:Z0}{a1:TRef}{a2:Z9}{a3:Int}{oT:Ab.Obj}{c0 gT:Nat}{r:Z9×Int×Z0},coerce_coercer_list_n n a0 a1 a2 a3=some r->∀(H:Heap) (hc0:H c0=some (.cells (Z0.c a0))) (hgT:H gT=some oT) (hoT:IsTab Tryz.prog oT),ACalls Tryz.prog 69 [.d (.ptr c0 0),.agg (TRef.c a1),.agg (Z9.c a2),.d (.int .i64 a3)] H fun v h'=>v=.tup [.agg (Z9.c r.1),.d (.int .i64 r.2.1)]/\h'=(H.set c0 (some (.cells (Z0.c r.2.2))))) (ih_70:∀{a0:Z0}{a1:TDef}{a2:Z9}{a3:Int}{oT:Ab.Obj}{c0 gT:Nat}{r:Z9×Int×Z0},coerce_coercer_object_n n a0 a1 a2 a3=some r->∀(H:Heap) (hc0:H c0=some (.cells (Z0.c a0))) (hgT:H gT=some oT) (hoT:IsTab Tryz.prog oT),ACalls Tryz.prog 70 [.d (.ptr c0 0),.agg (TDef.c a1),.agg (Z9.c a2),.d (.int .i64 a3)] H fun v h'=>v=.tup [.agg (Z9.c r.1),.d (.int .i64 r.2.1)]/\h'=(H.set c0 (some (.cells (Z0.c r.2.2))))) (ih_90:∀{a0:Z0}{a1:Z6}{a2:Int}{oT:Ab.Obj}{c0 gT:Nat}{r:Z9×Int×Z0},Z17_n n a0 a1 a2=some r->∀(H:Heap) (hc0:H c0=some (.cells (Z0.c a0))) (hgT:H gT=some oT) (hoT:IsTab Tryz.prog oT),ACalls Tryz.prog 90 [.d (.ptr c0 0),.agg (Z6.c a1),.d (.int .i64 a2)] H fun v h'=>v=.tup [.agg (Z9.c r.1),.d (.int .i64 r.2.1)]/\h'=(H.set c0 (some (.cells (Z0.c r.2.2))))):∀{a0:Z0}{a1:TRef}{a2:Z9}{a3:Int}{oT:Ab.Obj}{c0 gT:Nat}{r:Z9×Int×Z0},coerce_coercer_at_n (n+1) a0 a1 a2 a3=some r->∀(H:Heap) (hc0:H c0=some (.cells (Z0.c a0))) (hgT:H gT=some oT) (hoT:IsTab Tryz.prog oT),ACalls Tryz.prog 38 [.d (.ptr c0 0),.agg (TRef.c a1),.agg (Z9.c a2),.d (.int .i64 a3)] H fun v h'=>v=.tup [.agg (Z9.c r.1),.d (.int .i64 r.2.1)]/\h'=(H.set c0 (some (.cells (Z0.c r.2.2)))):=by
 intro a0 a1 a2 a3 oT c0 gT r hE H hc0 hgT hoT;rw [coerce_coercer_at_n] at hE;refine ACalls.oW 119 [.cell 8 31,.tmp 9] Tryz.call38 Tryz.func38 ?_;have ne_gT_c0:gT≠c0:=fun e_=>by subst e_; obtain⟨_,_,_,e2_,_⟩:=hoT; simp_all
 refine AWp.heqA (h':=(H.set c0 (some (.cells (Z0.c a0))))) (by funext n_; simp only [Heap.set]; (repeat' split)<;>simp_all) ?_;refine seqR (S BX ?_);refine sL (boxL rfl (by repeat (first|exact Snoc.nil|apply Snoc.cons))) rfl ?_;refine Sl ?_;refine S As (nil ?_);refine seqK fun K2 hK2=>?_;refine AWp.seqD (Sd Mv (Sd NP ?_));refine DOps.s0 (fieldP (TK rfl) rfl rfl (TK rfl) rfl rfl) rfl ?_;refine DOps.s0 (loadP (TK rfl) rfl rfl hpG rfl) rfl ?_
 refine Sd Fv (Sd Ld ?_);obtain⟨x4,gx4,hE⟩:=bO hE;refine Scd rfl rfl (Z71_walk gx4) ?_;refine Sd NB ?_;refine DOps.nil (by decide +kernel) ?_;refine cE hE (fun hc5 hE=>?_) (fun hc5 hE=>?_)
 ·refine seqR (S BU ?_);refine Sf ?_;refine S As (nil ?_);exact rt hE
 refine sk hK2 ?_;clear hK2 K2;refine seqJ (TA 0 (TA 3 (TA 5 (TA 6 (TA 8 KeepsT.nil))))) (fun(z:Z0×Z9×Z9)=>[]) (fun z=>[Z9.c z.2.1,Z9.c z.2.2]) (fun z=>(H.set c0 (some (.cells (Z0.c z.1))))) (fun z=>coerce_coercer_at_j7 a1 a3 (coerce_coercer_list_n n) (coerce_coercer_object_n n) z.1 z.2.1 z.2.2=some r) ?_ ?_
 ·intro K7 hK7;refine seqR (S FL (S LL (S BI (S Mv (G0 Mv ?_)))));refine G1 29 rfl NP ?_;refine gC rfl rfl (fun hC=>ungdA (k:=30) rfl (fieldP (TK rfl) rfl rfl (TK rfl) rfl rfl)) rfl ?_;refine gC rfl rfl (fun hC=>ungdA (k:=31) rfl (loadP (TK rfl) rfl rfl hpG rfl)) rfl ?_;refine S PA (nil ?_);refine cE hE (fun hc44 hE=>?_) (fun hc44 hE=>?_)
  ·refine AWp.seqD (Sd Mv (Sd NP ?_));refine DOps.s0 (fieldP (TK rfl) rfl rfl (TK rfl) rfl rfl) rfl ?_;refine DOps.s0 (loadP (TK rfl) rfl rfl hpG rfl) rfl ?_;refine Sd FL (Sd LL ?_);obtain⟨x46,gx46,hE⟩:=bO hE;refine Scd rfl rfl (Z108_walk gx46) ?_;refine Sd Mv (Sd EX (Sd EX ?_));refine DOps.sLn (storeLFA (TK rfl) rfl rfl rfl rfl rfl) ?_;refine DOps.nil (by decide +kernel) ?_;refine seqR (S FL (S LL (S BI (nil ?_))))
   refine cE hE (fun hc48 hE=>?_) (fun hc48 hE=>?_)
   ·refine seqR (S Mv (S LL (S Mv ?_)));obtain⟨x50,gx50,hE⟩:=bO hE;refine sH (callH rfl rfl (Z19_walk gx50 _ hpG)) rfl ?_;refine hq (H.set c0 (some (.cells (Z0.c x50.2)))) ?_;refine S As (nil ?_);refine seqK fun K51 hK51=>?_;refine seqR (S Mv (S BI (nil ?_)));refine cE hE (fun hc53 hE=>?_) (fun hc53 hE=>?_)
    ·refine seqR (S BU (S Mv ?_));refine Sf ?_;refine S As (nil ?_);exact rt hE
    refine sk hK51 ?_;clear hK51 K51;refine seqR (S LL ?_);refine Sf ?_;refine S As (nil ?_);exact rt hE
   refine AWp.skip ?_;exact hK7 _ (a0,x46.1,Z9.zero) Weak.toA hE
  refine AWp.skip ?_;exact hK7 _ (a0,a2,Z9.zero) Weak.toA hE
 rintro ⟨y8_c0,y9_l0,y10_l1⟩ hE;try dsimp only at hE
 unfold coerce_coercer_at_j7 at hE;refine seqK fun K11 hK11=>?_;refine seqR (S Mv (S Mv ?_));obtain⟨x13,gx13,hE⟩:=bO hE;refine sH (callH rfl rfl (Z13_walk gx13 _ hpG)) rfl ?_;refine hq (H.set c0 (some (.cells (Z0.c x13.2)))) ?_;refine S As (nil ?_);refine seqR (S Mv (S BI (nil ?_)));refine cE hE (fun hc15 hE=>?_) (fun hc15 hE=>?_)
 ·refine seqR (S BU (S Mv ?_));refine Sf ?_;refine S As (nil ?_);exact rt hE
 refine sk hK11 ?_;clear hK11 K11;refine seqK fun K17 hK17=>?_;refine seqR (S FL (S LL (S BI (nil ?_))));refine cE hE (fun hc19 hE=>?_) (fun hc19 hE=>?_)
 ·refine seqK fun K20 hK20=>?_;refine seqR (S Ld ?_);obtain⟨x22,gx22,hE⟩:=bO hE;refine Sc rfl rfl (Z104_walk gx22) ?_;refine nil ?_;refine cE hE (fun hc23 hE=>?_) (fun hc23 hE=>?_)
  ·refine seqR (S BU ?_);refine Sf ?_;refine S As (nil ?_);exact rt hE
  refine sk hK20 ?_;clear hK20 K20;refine seqR (S BU ?_);refine Sf ?_;refine S As (nil ?_);exact rt hE
 refine sk hK17 ?_;clear hK17 K17;refine seqK fun K26 hK26=>?_;refine seqR (S Ld ?_);obtain⟨x28,gx28,hE⟩:=bO hE;refine Sc rfl rfl (Z102_walk gx28) ?_;refine S Mv (S EX (S EX ?_));refine Sl ?_;refine Sf ?_;refine S As (nil ?_);refine freezeA 12 _ rfl (KA 0 (KA 3 (KA 5 (KA 6 (KA 8 (KA 13 Keeps.nil)))))) ?_;refine seqR (S Mv (nil ?_));refine cE hE (fun hc30 hE=>?_) (fun hc30 hE=>?_)
 ·refine seqR (S Mv (S Ld (S LL (S Mv ?_))));obtain⟨x32,gx32,hE⟩:=bO hE;refine sH (callH rfl rfl (ih_69 (gT:=gT) (oT:=oT) gx32 _ hpG hpG (by assumption))) rfl ?_;refine hq (H.set c0 (some (.cells (Z0.c x32.2.2)))) ?_;refine S EX (S EX ?_);refine Sf ?_;refine S As (nil ?_);exact rt hE
 refine sk hK26 ?_;clear hK26 K26;refine seqK fun K33 hK33=>?_;refine AWp.seqD (Sd Mv (Sd NP ?_));refine DOps.s0 (fieldP (TK rfl) rfl rfl (TK rfl) rfl rfl) rfl ?_;refine DOps.s0 (loadP (TK rfl) rfl rfl hpG rfl) rfl ?_;refine Sd Fv (Sd Ld ?_);obtain⟨x35,gx35,hE⟩:=bO hE;refine Scd rfl rfl (Z69_walk gx35) ?_;refine Sd Mv (Sd EX (Sd EX ?_));refine DOps.sB (TK rfl) rfl rfl ?_ (by repeat (first|exact Snoc.nil|apply Snoc.cons))
 refine DOps.sLn (storeLFA (TK rfl) rfl rfl rfl rfl rfl) ?_;refine Sd As ?_;refine DOps.nil (by decide +kernel) ?_;refine freezeA 14 _ rfl (KA 0 (KA 3 (KA 5 (KA 6 (KA 8 (KA 15 Keeps.nil)))))) ?_;refine seqR (S Mv (S Mv (G0 Fv ?_)));refine G1 95 rfl Ld ?_;obtain⟨x37,gx37,hE⟩:=gO hE;refine Gc1 96 rfl rfl rfl rfl rfl (fun hC=>Z74_walk (gx37 hC)) ?_;refine G1 97 rfl NB ?_;refine S PA (S Mv (G0 Fv ?_))
 refine G1 101 rfl Ld ?_;refine G1 102 rfl BI ?_;refine S PA (nil ?_);refine cE hE (fun hc38 hE=>?_) (fun hc38 hE=>?_)
 ·refine seqR (S Mv (S Ld (S LL (S Mv ?_))));obtain⟨x40,gx40,hE⟩:=bO hE;refine sH (callH rfl rfl (ih_70 (gT:=gT) (oT:=oT) gx40 _ hpG hpG (by assumption))) rfl ?_;refine hq (H.set c0 (some (.cells (Z0.c x40.2.2)))) ?_;refine S EX (S EX ?_);refine Sf ?_;refine S As (nil ?_);exact rt hE
 refine sk hK33 ?_;clear hK33 K33;refine seqR (S Mv (S Fv (S Ld (S LL ?_))));obtain⟨x42,gx42,hE⟩:=bO hE;refine s0 (callR rfl rfl (Z14_walk (gT:=gT) (oT:=oT) gx42 _ hpG hpG (by assumption))) rfl ?_;refine S EX (S EX ?_);refine Sf ?_;refine S As (nil ?_);exact rt hE
theorem coerce_coercer_list_step (n:Nat) (ih_38:∀{a0:Z0}{a1:TRef}{a2:Z9}{a3:Int}{oT:Ab.Obj}{c0 gT:Nat}{r:Z9×Int×Z0},coerce_coercer_at_n n a0 a1 a2 a3=some r->∀(H:Heap) (hc0:H c0=some (.cells (Z0.c a0))) (hgT:H gT=some oT) (hoT:IsTab Tryz.prog oT),ACalls Tryz.prog 38 [.d (.ptr c0 0),.agg (TRef.c a1),.agg (Z9.c a2),.d (.int .i64 a3)] H fun v h'=>v=.tup [.agg (Z9.c r.1),.d (.int .i64 r.2.1)]/\h'=(H.set c0 (some (.cells (Z0.c r.2.2))))) (ih_69:∀{a0:Z0}{a1:TRef}{a2:Z9}{a3:Int}{oT:Ab.Obj}{c0 gT:Nat}{r:Z9×Int×Z0},coerce_coercer_list_n n a0 a1 a2 a3=some r->∀(H:Heap) (hc0:H c0=some (.cells (Z0.c a0))) (hgT:H gT=some oT) (hoT:IsTab Tryz.prog oT),ACalls Tryz.prog 69 [.d (.ptr c0 0),.agg (TRef.c a1),.agg (Z9.c a2),.d (.int .i64 a3)] H fun v h'=>v=.tup [.agg (Z9.c r.1),.d (.int .i64 r.2.1)]/\h'=(H.set c0 (some (.cells (Z0.c r.2.2))))) (ih_70:∀{a0:Z0}{a1:TDef}{a2:Z9}{a3:Int}{oT:Ab.Obj}{c0 gT:Nat}{r:Z9×Int×Z0},coerce_coercer_object_n n a0 a1 a2 a3=some r->∀(H:Heap) (hc0:H c0=some (.cells (Z0.c a0))) (hgT:H gT=some oT) (hoT:IsTab Tryz.prog oT),ACalls Tryz.prog 70 [.d (.ptr c0 0),.agg (TDef.c a1),.agg (Z9.c a2),.d (.int .i64 a3)] H fun v h'=>v=.tup [.agg (Z9.c r.1),.d (.int .i64 r.2.1)]/\h'=(H.set c0 (some (.cells (Z0.c r.2.2))))) (ih_90:∀{a0:Z0}{a1:Z6}{a2:Int}{oT:Ab.Obj}{c0 gT:Nat}{r:Z9×Int×Z0},Z17_n n a0 a1 a2=some r->∀(H:Heap) (hc0:H c0=some (.cells (Z0.c a0))) (hgT:H gT=some oT) (hoT:IsTab Tryz.prog oT),ACalls Tryz.prog 90 [.d (.ptr c0 0),.agg (Z6.c a1),.d (.int .i64 a2)] H fun v h'=>v=.tup [.agg (Z9.c r.1),.d (.int .i64 r.2.1)]/\h'=(H.set c0 (some (.cells (Z0.c r.2.2))))):∀{a0:Z0}{a1:TRef}{a2:Z9}{a3:Int}{oT:Ab.Obj}{c0 gT:Nat}{r:Z9×Int×Z0},coerce_coercer_list_n (n+1) a0 a1 a2 a3=some r->∀(H:Heap) (hc0:H c0=some (.cells (Z0.c a0))) (hgT:H gT=some oT) (hoT:IsTab Tryz.prog oT),ACalls Tryz.prog 69 [.d (.ptr c0 0),.agg (TRef.c a1),.agg (Z9.c a2),.d (.int .i64 a3)] H fun v h'=>v=.tup [.agg (Z9.c r.1),.d (.int .i64 r.2.1)]/\h'=(H.set c0 (some (.cells (Z0.c r.2.2)))):=by
 intro a0 a1 a2 a3 oT c0 gT r hE H hc0 hgT hoT;rw [coerce_coercer_list_n] at hE;refine ACalls.oW 51 [.cell 8 31,.tmp 9] Tryz.call69 Tryz.func69 ?_;have ne_gT_c0:gT≠c0:=fun e_=>by subst e_; obtain⟨_,_,_,e2_,_⟩:=hoT; simp_all
 refine AWp.heqA (h':=(H.set c0 (some (.cells (Z0.c a0))))) (by funext n_; simp only [Heap.set]; (repeat' split)<;>simp_all) ?_;refine seqR (S BX (S BX ?_));refine Sl ?_;refine S As (nil ?_);refine seqR (S Fv ?_);refine s0 (loadV (TK rfl) rfl rfl (congrArg (fun x=>some (A.d x)) (Z9.FItemsD_eq _))) rfl ?_;refine S As (nil ?_);refine seqJH (TA 0 (TA 3 (TA 5 (TA 8 KeepsT.nil)))) (fun(z:(Sl Z9))=>[(10,.a (.d (Sl.d 5 Z9.c none z)))]) (fun z=>(H.set c0 (some (.cells (Z0.c a0))))) (fun z=>coerce_coercer_list_j3 a0 a1 a3 (coerce_coercer_at_n n) z=some r) ?_ ?_
 ·intro K3 hK3;refine seqR (S Fv (S Ld (S BI (nil ?_))));refine cE hE (fun hc34 hE=>?_) (fun hc34 hE=>?_)
  ·refine region ?_;refine S Ld (S BV (S As (nil ?_)));exact hK3 _ (⟨false,[a2]⟩:Sl Z9) Weak.toA hE
  refine AWp.skip ?_;exact hK3 _ a2.FItems Weak.toA hE
 rintro s10_4 hE;try dsimp only at hE
 unfold coerce_coercer_list_j3 at hE;refine seqR (S BU ?_);refine Sl ?_;refine AOps.tok 5 fun tk11_6 htk11_6=>?_;obtain⟨ne_tk11_6_c0,htk11_6⟩:=Heap.set_fresh htk11_6;have ne_tk11_6_gT:tk11_6≠gT:=fun e_=>by subst e_; simp_all
 refine AOps.relocal 1 _ rfl (fun j w cs hh hx=>tok_cell 3 5 5 hh (t:=tk11_6) hpG hx rfl) ?_;refine Sf ?_;refine AOps.relocal 1 _ rfl (fun j w cs hh hx=>tok_cell 3 5 5 hh (t:=tk11_6) hpG hx rfl) ?_;refine nil ?_;refine seqJ (TA 8 (TA 11 KeepsT.nil)) (fun(z:Z0×Z9×Z9)=>[]) (fun z=>[Z9.c z.2.1,((intE .i64) z.2.2.FKind++(intE .i64) z.2.2.FInt++strE z.2.2.FText++[Sl.d 5 Z9.c (some tk11_6) z.2.2.FItems]++(fun s=>[Sl.d 1 strE none s]) z.2.2.FKeys)]) (fun z=>((H.set c0 (some (.cells (Z0.c z.1)))).set tk11_6 (some (.tok 5 z.2.2.FItems.l.length)))) (fun z=>coerce_coercer_list_j7 z.1 z.2.1 z.2.2=some r) ?_ ?_
 ·intro K7 hK7;refine seqR (S Mv ?_);refine sLen (f:=Z9.c) (s:=s10_4) (TK rfl) rfl rfl rfl rfl fun hL13=>?_;refine S Mv (nil ?_);refine block ?_;refine loopO (TA 0 (TA 3 (TA 5 (TA 8 (TA 11 (TA 24 (TA 25 KeepsT.nil))))))) (fun(z:Nat×Nat×Z0×Z9×Z9)=>[(26,.a (.d (.int .i64 ((z.2.1:Nat):Int))))]) (fun z=>[Z9.c z.2.2.2.1,((intE .i64) z.2.2.2.2.FKind++(intE .i64) z.2.2.2.2.FInt++strE z.2.2.2.2.FText++[Sl.d 5 Z9.c (some tk11_6) z.2.2.2.2.FItems]++(fun s=>[Sl.d 1 strE none s]) z.2.2.2.2.FKeys)]) (fun z=>((H.set c0 (some (.cells (Z0.c z.2.2.1)))).set tk11_6 (some (.tok 5 z.2.2.2.2.FItems.l.length)))) (fun z=>z.1) (fun z=>coerce_coercer_list_l14 a1 a3 s10_4 (coerce_coercer_at_n n) z.1 z.2.1 z.2.2.1 z.2.2.2.1 z.2.2.2.2=some r) ((s10_4.l.length+1),0,a0,Z9.zero,(Z9.mk (5:Int) (0:Int) ([]:Bs) true ([]) (Sl.nil:Sl Bs))) hE Weak.toA ?_
  rintro ⟨n14,s26_15,y16_c0,y17_l0,y18_l1⟩ hE K14 hK14;try dsimp only at hE
  cases n14 with
  | zero=>cases hE
  | succ n14 =>
    rw [coerce_coercer_list_l14] at hE;refine seqR (S BI (nil ?_));refine seqK fun K20 hK20=>?_;refine cE hE (fun hc21 hE=>?_) (fun hc21 hE=>?_)
    ·try dsimp only at hc21
     have hf21:=of_decide_eq_true hc21;refine sk hK20 ?_;clear hK20 K20;refine seqK fun K22 hK22=>?_;refine block ?_;refine seqR ?_;obtain⟨x24,gx24,hE⟩:=bO hE;refine S (ix Z9.c s26_15 gx24) (S Ld ?_);refine Sl ?_;refine Sf ?_;refine nil ?_;refine freezeA 13 _ rfl (KA 0 (KA 3 (KA 5 (KA 8 (KA 11 (KA 24 (KA 25 (KA 26 Keeps.nil)))))))) ?_;refine seqR (S Mv (S Ld (S Ld (S Mv ?_))));obtain⟨x26,gx26,hE⟩:=bO hE
     refine s0 (addM rfl rfl gx26) rfl ?_;obtain⟨x27,gx27,hE⟩:=bO hE;refine sH (callH rfl rfl (ih_38 (gT:=gT) (oT:=oT) gx27 _ hpG hpG (by assumption))) rfl ?_;refine hq ((H.set c0 (some (.cells (Z0.c x27.2.2)))).set tk11_6 (some (.tok 5 y18_l1.FItems.l.length))) ?_;refine S Mv (S EX (S EX ?_));refine Sl ?_;refine Sf ?_;refine S As (nil ?_);refine freezeA 14 _ rfl (KA 0 (KA 3 (KA 5 (KA 8 (KA 11 (KA 15 (KA 24 (KA 25 (KA 26 Keeps.nil))))))))) ?_
     refine seqK fun K28 hK28=>?_;refine seqR (S Mv (S BI (nil ?_)));refine cE hE (fun hc30 hE=>?_) (fun hc30 hE=>?_)
     ·refine seqR (S BU (S Mv ?_));refine Sf ?_;refine S As (nil ?_);refine AWp.ret ?_;repeat (first|refine xBlock_ret ?_|refine xThen_ret ?_)
      obtain rfl:=Option.some.inj hE;refine retQ.retF (H.set c0 (some (.cells (Z0.c x27.2.2)))) rfl ⟨rfl,rfl⟩ ?_;intro id_ o_ he_;have e_tk11_6:id_≠tk11_6:=fun e_=>by subst e_; simp_all [Heap.set]
      rw [<- he_];simp only [Heap.set] at he_ ⊢
      (repeat' split)<;>simp_all
     refine sk hK28 ?_;clear hK28 K28;refine region ?_;refine S FL (S LL (S Ld (S BV ?_)));obtain⟨x32,gx32,hE⟩:=bO hE;refine SH (am Z9.c (TK rfl) rfl (TK rfl) (TK rfl) gx32) ?_;refine hq ((H.set c0 (some (.cells (Z0.c x27.2.2)))).set tk11_6 (some (.tok 5 x32.l.length))) ?_;refine S FL ?_;refine Sf ?_;refine nil ?_;refine hK22 _ ?_;clear hK22 K22;refine region ?_;refine SI ?_;refine S Mv (nil ?_);exact hK14 _ (n14,(s26_15+1),x27.2.2,y17_l0,(Z9.mk y18_l1.FKind y18_l1.FInt y18_l1.FText x32.nl x32.l y18_l1.FKeys)) Weak.toA hE (Nat.lt_succ_self _)
    refine AWp.exit ?_;exact hK7 _ (y16_c0,y17_l0,y18_l1) Weak.toA hE
 rintro ⟨y8_c0,y9_l0,y10_l1⟩ hE;try dsimp only at hE
 unfold coerce_coercer_list_j7 at hE;refine seqK fun K11 hK11=>?_;refine AWp.relocal 1 _ rfl (fun j w cs hh hx=>untok_cell 3 hx rfl) ?_;refine AWp.relocal 1 (Z9.c y10_l1) rfl (fun j w cs hh hx=>by rw [Z9.cu_eq]; exact hx) ?_;refine region ?_;refine S LL ?_;refine Sf ?_;refine S As (nil ?_);refine hK11 _ ?_;clear hK11 K11;refine AWp.ret ?_;repeat (first|refine xBlock_ret ?_|refine xThen_ret ?_)
 obtain rfl:=Option.some.inj hE;refine retQ.retF (H.set c0 (some (.cells (Z0.c y8_c0)))) rfl ⟨rfl,rfl⟩ ?_;intro id_ o_ he_;have e_tk11_6:id_≠tk11_6:=fun e_=>by subst e_; simp_all [Heap.set]
 rw [<- he_];simp only [Heap.set] at he_ ⊢
 (repeat' split)<;>simp_all
theorem coerce_coercer_object_step (n:Nat) (ih_38:∀{a0:Z0}{a1:TRef}{a2:Z9}{a3:Int}{oT:Ab.Obj}{c0 gT:Nat}{r:Z9×Int×Z0},coerce_coercer_at_n n a0 a1 a2 a3=some r->∀(H:Heap) (hc0:H c0=some (.cells (Z0.c a0))) (hgT:H gT=some oT) (hoT:IsTab Tryz.prog oT),ACalls Tryz.prog 38 [.d (.ptr c0 0),.agg (TRef.c a1),.agg (Z9.c a2),.d (.int .i64 a3)] H fun v h'=>v=.tup [.agg (Z9.c r.1),.d (.int .i64 r.2.1)]/\h'=(H.set c0 (some (.cells (Z0.c r.2.2))))) (ih_69:∀{a0:Z0}{a1:TRef}{a2:Z9}{a3:Int}{oT:Ab.Obj}{c0 gT:Nat}{r:Z9×Int×Z0},coerce_coercer_list_n n a0 a1 a2 a3=some r->∀(H:Heap) (hc0:H c0=some (.cells (Z0.c a0))) (hgT:H gT=some oT) (hoT:IsTab Tryz.prog oT),ACalls Tryz.prog 69 [.d (.ptr c0 0),.agg (TRef.c a1),.agg (Z9.c a2),.d (.int .i64 a3)] H fun v h'=>v=.tup [.agg (Z9.c r.1),.d (.int .i64 r.2.1)]/\h'=(H.set c0 (some (.cells (Z0.c r.2.2))))) (ih_70:∀{a0:Z0}{a1:TDef}{a2:Z9}{a3:Int}{oT:Ab.Obj}{c0 gT:Nat}{r:Z9×Int×Z0},coerce_coercer_object_n n a0 a1 a2 a3=some r->∀(H:Heap) (hc0:H c0=some (.cells (Z0.c a0))) (hgT:H gT=some oT) (hoT:IsTab Tryz.prog oT),ACalls Tryz.prog 70 [.d (.ptr c0 0),.agg (TDef.c a1),.agg (Z9.c a2),.d (.int .i64 a3)] H fun v h'=>v=.tup [.agg (Z9.c r.1),.d (.int .i64 r.2.1)]/\h'=(H.set c0 (some (.cells (Z0.c r.2.2))))) (ih_90:∀{a0:Z0}{a1:Z6}{a2:Int}{oT:Ab.Obj}{c0 gT:Nat}{r:Z9×Int×Z0},Z17_n n a0 a1 a2=some r->∀(H:Heap) (hc0:H c0=some (.cells (Z0.c a0))) (hgT:H gT=some oT) (hoT:IsTab Tryz.prog oT),ACalls Tryz.prog 90 [.d (.ptr c0 0),.agg (Z6.c a1),.d (.int .i64 a2)] H fun v h'=>v=.tup [.agg (Z9.c r.1),.d (.int .i64 r.2.1)]/\h'=(H.set c0 (some (.cells (Z0.c r.2.2))))):∀{a0:Z0}{a1:TDef}{a2:Z9}{a3:Int}{oT:Ab.Obj}{c0 gT:Nat}{r:Z9×Int×Z0},coerce_coercer_object_n (n+1) a0 a1 a2 a3=some r->∀(H:Heap) (hc0:H c0=some (.cells (Z0.c a0))) (hgT:H gT=some oT) (hoT:IsTab Tryz.prog oT),ACalls Tryz.prog 70 [.d (.ptr c0 0),.agg (TDef.c a1),.agg (Z9.c a2),.d (.int .i64 a3)] H fun v h'=>v=.tup [.agg (Z9.c r.1),.d (.int .i64 r.2.1)]/\h'=(H.set c0 (some (.cells (Z0.c r.2.2)))):=by
 intro a0 a1 a2 a3 oT c0 gT r hE H hc0 hgT hoT;rw [coerce_coercer_object_n] at hE;refine ACalls.oW 124 [.cell 8 31,.tmp 9] Tryz.call70 Tryz.func70 ?_;have ne_gT_c0:gT≠c0:=fun e_=>by subst e_; obtain⟨_,_,_,e2_,_⟩:=hoT; simp_all
 refine AWp.heqA (h':=(H.set c0 (some (.cells (Z0.c a0))))) (by funext n_; simp only [Heap.set]; (repeat' split)<;>simp_all) ?_;refine seqR (S BX (S BX ?_));refine Sl ?_;refine S As (nil ?_);refine seqK fun K2 hK2=>?_;refine seqR (S Fv (S Ld (S BI (nil ?_))));refine cE hE (fun hc4 hE=>?_) (fun hc4 hE=>?_)
 ·refine seqR (S BU ?_);refine Sf ?_;refine S As (nil ?_);exact rt hE
 refine sk hK2 ?_;clear hK2 K2;refine seqJ (TA 0 (TA 3 (TA 5 (TA 6 (TA 8 KeepsT.nil))))) (fun(z:Z9)=>[]) (fun z=>[Z9.c z]) (fun z=>(H.set c0 (some (.cells (Z0.c a0))))) (fun z=>coerce_coercer_object_j6 a0 a1 a2 a3 (coerce_coercer_at_n n) (Z17_n n) z=some r) ?_ ?_
 ·intro K6 hK6;refine seqR (S Fv (S Ld ?_));refine sLen (f:=strE) (s:=a2.FKeys) (TK rfl) rfl rfl rfl rfl fun hL65=>?_;refine S Mv (nil ?_);refine block ?_;refine loopO (TA 0 (TA 3 (TA 5 (TA 6 (TA 8 (TA 28 (TA 29 KeepsT.nil))))))) (fun(z:Nat×Nat×Z9)=>[(30,.a (.d (.int .i64 ((z.2.1:Nat):Int))))]) (fun z=>[Z9.c z.2.2]) (fun z=>(H.set c0 (some (.cells (Z0.c a0))))) (fun z=>z.1) (fun z=>coerce_coercer_object_l66 a0 a1 a2 a3 (coerce_coercer_at_n n) (Z17_n n) z.1 z.2.1 z.2.2=some r) ((a2.FKeys.l.length+1),0,Z9.zero) hE Weak.toA ?_
  rintro ⟨n66,s30_67,y68_l0⟩ hE K66 hK66;try dsimp only at hE
  cases n66 with
  | zero=>cases hE
  | succ n66 =>
    rw [coerce_coercer_object_l66] at hE;refine seqR (S BI (nil ?_));refine seqK fun K70 hK70=>?_;refine cE hE (fun hc71 hE=>?_) (fun hc71 hE=>?_)
    ·try dsimp only at hc71
     have hf71:=of_decide_eq_true hc71;refine sk hK70 ?_;clear hK70 K70;refine seqK fun K72 hK72=>?_;refine block ?_;refine seqR ?_;obtain⟨x74,gx74,hE⟩:=bO hE;refine S (ix strE s30_67 gx74) (S Ld (S As (nil ?_)));refine seqR (S Fv (S Ld (S Mv ?_)));obtain⟨x76,gx76,hE⟩:=bO hE;refine Sc rfl rfl (Z70_walk gx76) ?_;refine S Mv (S EX (S EX ?_));refine Sl ?_;refine Sf ?_;refine S As (nil ?_);refine freezeA 12 _ rfl (KA 0 (KA 3 (KA 5 (KA 6 (KA 8 (KA 13 (KA 28 (KA 29 (KA 30 Keeps.nil))))))))) ?_
     refine seqR (S Mv (S NB (nil ?_)));refine cE hE (fun hc78 hE=>?_) (fun hc78 hE=>?_)
     ·refine seqR (S BU ?_);refine Sf ?_;refine S As (nil ?_);exact rt hE
     refine sk hK72 ?_;clear hK72 K72;refine region ?_;refine SI ?_;refine S Mv (nil ?_);exact hK66 _ (n66,(s30_67+1),y68_l0) Weak.toA hE (Nat.lt_succ_self _)
    refine AWp.exit ?_;exact hK6 _ y68_l0 Weak.toA hE
 rintro y7_l0 hE;try dsimp only at hE
 unfold coerce_coercer_object_j6 at hE;refine seqR (S BU ?_);refine Sl ?_;refine AOps.tok 5 fun tk14_9 htk14_9=>?_;obtain⟨ne_tk14_9_c0,htk14_9⟩:=Heap.set_fresh htk14_9;have ne_tk14_9_gT:tk14_9≠gT:=fun e_=>by subst e_; simp_all
 refine AOps.relocal 1 _ rfl (fun j w cs hh hx=>tok_cell 3 5 5 hh (t:=tk14_9) hpG hx rfl) ?_;refine AOps.tok 1 fun tk14_10 htk14_10=>?_;obtain⟨ne_tk14_10_tk14_9,htk14_10⟩:=Heap.set_fresh htk14_10;obtain⟨ne_tk14_10_c0,htk14_10⟩:=Heap.set_fresh htk14_10;have ne_tk14_10_gT:tk14_10≠gT:=fun e_=>by subst e_; simp_all
 refine AOps.relocal 1 _ rfl (fun j w cs hh hx=>tok_cell 4 1 1 hh (t:=tk14_10) hpG hx rfl) ?_;refine Sf ?_;refine AOps.relocal 1 _ rfl (fun j w cs hh hx=>tok_cell 3 5 5 hh (t:=tk14_9) hpG hx rfl) ?_;refine AOps.relocal 1 _ rfl (fun j w cs hh hx=>tok_cell 4 1 1 hh (t:=tk14_10) hpG hx rfl) ?_;refine nil ?_;refine seqJ (TA 8 (TA 14 KeepsT.nil)) (fun(z:Z0×Z9×Z9)=>[]) (fun z=>[Z9.c z.2.1,((intE .i64) z.2.2.FKind++(intE .i64) z.2.2.FInt++strE z.2.2.FText++[Sl.d 5 Z9.c (some tk14_9) z.2.2.FItems]++[Sl.d 1 strE (some tk14_10) z.2.2.FKeys])]) (fun z=>(((H.set c0 (some (.cells (Z0.c z.1)))).set tk14_9 (some (.tok 5 z.2.2.FItems.l.length))).set tk14_10 (some (.tok 1 z.2.2.FKeys.l.length)))) (fun z=>coerce_coercer_object_j11 z.1 z.2.1 z.2.2=some r) ?_ ?_
 ·intro K11 hK11;refine seqR (S Fv (S Ld ?_));refine sLen (f:=Z6.c) (s:=a1.FInputs) (TK rfl) rfl rfl rfl rfl fun hL17=>?_;refine S Mv (nil ?_);refine block ?_;refine loopO (TA 0 (TA 3 (TA 5 (TA 6 (TA 8 (TA 14 (TA 47 (TA 48 KeepsT.nil)))))))) (fun(z:Nat×Nat×Z0×Z9×Z9)=>[(49,.a (.d (.int .i64 ((z.2.1:Nat):Int))))]) (fun z=>[Z9.c z.2.2.2.1,((intE .i64) z.2.2.2.2.FKind++(intE .i64) z.2.2.2.2.FInt++strE z.2.2.2.2.FText++[Sl.d 5 Z9.c (some tk14_9) z.2.2.2.2.FItems]++[Sl.d 1 strE (some tk14_10) z.2.2.2.2.FKeys])]) (fun z=>(((H.set c0 (some (.cells (Z0.c z.2.2.1)))).set tk14_9 (some (.tok 5 z.2.2.2.2.FItems.l.length))).set tk14_10 (some (.tok 1 z.2.2.2.2.FKeys.l.length)))) (fun z=>z.1) (fun z=>coerce_coercer_object_l18 a1 a2 a3 (coerce_coercer_at_n n) (Z17_n n) z.1 z.2.1 z.2.2.1 z.2.2.2.1 z.2.2.2.2=some r) ((a1.FInputs.l.length+1),0,a0,y7_l0,(Z9.mk (6:Int) (0:Int) ([]:Bs) true ([]) (Sl.nil:Sl Bs))) hE Weak.toA ?_
  rintro ⟨n18,s49_19,y20_c0,y21_l0,y22_l1⟩ hE K18 hK18;try dsimp only at hE
  cases n18 with
  | zero=>cases hE
  | succ n18 =>
    rw [coerce_coercer_object_l18] at hE;refine seqR (S BI (nil ?_));refine seqK fun K24 hK24=>?_;refine cE hE (fun hc25 hE=>?_) (fun hc25 hE=>?_)
    ·try dsimp only at hc25
     have hf25:=of_decide_eq_true hc25;refine sk hK24 ?_;clear hK24 K24;refine seqJ (TA 0 (TA 3 (TA 5 (TA 6 (TA 8 (TA 14 (TA 47 (TA 48 (TA 49 KeepsT.nil))))))))) (fun(z:Z0×Z9×Z9)=>[]) (fun z=>[Z9.c z.2.1,((intE .i64) z.2.2.FKind++(intE .i64) z.2.2.FInt++strE z.2.2.FText++[Sl.d 5 Z9.c (some tk14_9) z.2.2.FItems]++[Sl.d 1 strE (some tk14_10) z.2.2.FKeys])]) (fun z=>(((H.set c0 (some (.cells (Z0.c z.1)))).set tk14_9 (some (.tok 5 z.2.2.FItems.l.length))).set tk14_10 (some (.tok 1 z.2.2.FKeys.l.length)))) (fun z=>coerce_coercer_object_j26 s49_19 ((coerce_coercer_object_l18 a1 a2 a3 (coerce_coercer_at_n n) (Z17_n n) n18)) z.1 z.2.1 z.2.2=some r) ?_ ?_
     ·intro K26 hK26;refine block ?_;refine seqR (S Mv ?_);obtain⟨x31,gx31,hE⟩:=bO hE;refine S (ix Z6.c s49_19 gx31) (S Ld ?_);refine Sl ?_;refine S As ?_;refine Sf ?_;refine nil ?_;refine freezeA 16 _ rfl (KA 0 (KA 3 (KA 5 (KA 6 (KA 8 (KA 14 (KA 15 (KA 47 (KA 48 (KA 49 Keeps.nil)))))))))) ?_;refine seqK fun K32 hK32=>?_;refine AWp.seqD (Sd Fv (Sd Ld (Sd Mv ?_)));obtain⟨x34,gx34,hE⟩:=bO hE;refine DOps.s0 (partM (f:=Z6.c) (l:=none) (r:=(some ((s49_19:Nat):Int))) (TK rfl) rfl (TK rfl) rfl rfl trivial rfl gx34) rfl ?_
      refine Sd Fv (Sd Ld ?_);obtain⟨x35,gx35,hE⟩:=bO hE;refine Scd rfl rfl (Z70_walk gx35) ?_;refine Sd Mv (Sd EX (Sd EX ?_));refine DOps.sB (TK rfl) rfl rfl ?_ (by repeat (first|exact Snoc.nil|apply Snoc.cons));refine DOps.sLn (storeLFA (TK rfl) rfl rfl rfl rfl rfl) ?_;refine Sd As ?_;refine DOps.nil (by decide +kernel) ?_;refine freezeA 17 _ rfl (KA 0 (KA 3 (KA 5 (KA 6 (KA 8 (KA 14 (KA 16 (KA 18 (KA 47 (KA 48 (KA 49 Keeps.nil))))))))))) ?_
      refine seqR (S Mv (nil ?_));refine cE hE (fun hc37 hE=>?_) (fun hc37 hE=>?_)
      ·refine AWp.exit ?_;exact hK26 _ (y20_c0,y21_l0,y22_l1) Weak.toA hE
      refine sk hK32 ?_;clear hK32 K32;refine seqR (S Ld (S Fv (S Ld ?_)));obtain⟨x39,gx39,hE⟩:=bO hE;refine Sc rfl rfl (Z108_walk gx39) ?_;refine S Mv (S EX (S EX ?_));refine Sl ?_;refine Sf ?_;refine S As (nil ?_);refine freezeA 19 _ rfl (KA 0 (KA 3 (KA 5 (KA 6 (KA 8 (KA 14 (KA 16 (KA 20 (KA 47 (KA 48 (KA 49 Keeps.nil))))))))))) ?_;refine seqR ?_;refine Sl ?_;refine nil ?_;refine seqR (S As (nil ?_))
      refine seqJ (TA 0 (TA 3 (TA 5 (TA 6 (TA 8 (TA 14 (TA 16 (TA 21 (TA 47 (TA 48 (TA 49 KeepsT.nil))))))))))) (fun(z:Int×Z0×Z9)=>[(22,.a (.d (.int .i64 z.1)))]) (fun z=>[Z9.c y21_l0,((intE .i64) y22_l1.FKind++(intE .i64) y22_l1.FInt++strE y22_l1.FText++[Sl.d 5 Z9.c (some tk14_9) y22_l1.FItems]++[Sl.d 1 strE (some tk14_10) y22_l1.FKeys]),Z9.c z.2.2]) (fun z=>(((H.set c0 (some (.cells (Z0.c z.2.1)))).set tk14_9 (some (.tok 5 y22_l1.FItems.l.length))).set tk14_10 (some (.tok 1 y22_l1.FKeys.l.length)))) (fun z=>coerce_coercer_object_j42 s49_19 y21_l0 y22_l1 x31 ((coerce_coercer_object_l18 a1 a2 a3 (coerce_coercer_at_n n) (Z17_n n) n18)) z.1 z.2.1 z.2.2=some r) ?_ ?_
      ·intro K42 hK42;refine block ?_;refine seqR (S Mv (S Mv (G0 Mv (G0 Ld ?_))));obtain⟨x53,gx53,hE⟩:=gO hE;refine gC rfl rfl (fun hC=>ungdA (k:=75) rfl (ungdA (k:=76) rfl (callR rfl rfl (Z16_walk (gx53 hC) _ hpG)))) rfl ?_;refine G1 77 rfl NB ?_;refine S PA (S As (nil ?_));refine cE hE (fun hc54 hE=>?_) (fun hc54 hE=>?_)
       ·refine region ?_;refine S Mv (S Fv (S Ld (S Ld (S Mv ?_))));obtain⟨x55,gx55,hE⟩:=bO hE;refine s0 (addM rfl rfl gx55) rfl ?_;obtain⟨x56,gx56,hE⟩:=bO hE;refine sH (callH rfl rfl (ih_38 (gT:=gT) (oT:=oT) gx56 _ hpG hpG (by assumption))) rfl ?_;refine hq (((H.set c0 (some (.cells (Z0.c x56.2.2)))).set tk14_9 (some (.tok 5 y22_l1.FItems.l.length))).set tk14_10 (some (.tok 1 y22_l1.FKeys.l.length))) ?_
        refine S Mv (S EX (S EX ?_));refine Sf ?_;refine S As (nil ?_);exact hK42 _ (x56.2.1,x56.2.2,x56.1) Weak.toA hE
       refine seqR (S Fv (S Ld (S As (nil ?_))));refine cE hE (fun hc58 hE=>?_) (fun hc58 hE=>?_)
       ·refine region ?_;refine S Mv (S Ld (S Mv ?_));obtain⟨x59,gx59,hE⟩:=bO hE;refine s0 (addM rfl rfl gx59) rfl ?_;obtain⟨x60,gx60,hE⟩:=bO hE;refine sH (callH rfl rfl (ih_90 (gT:=gT) (oT:=oT) gx60 _ hpG hpG (by assumption))) rfl ?_;refine hq (((H.set c0 (some (.cells (Z0.c x60.2.2)))).set tk14_9 (some (.tok 5 y22_l1.FItems.l.length))).set tk14_10 (some (.tok 1 y22_l1.FKeys.l.length))) ?_;refine S Mv (S EX (S EX ?_))
        refine Sf ?_;refine S As (nil ?_);exact hK42 _ (x60.2.1,x60.2.2,x60.1) Weak.toA hE
       refine seqR (S Fv (S Ld ?_));obtain⟨x62,gx62,hE⟩:=bO hE;refine Sc rfl rfl (Z104_walk gx62) ?_;refine S As (nil ?_);refine cE hE (fun hc63 hE=>?_) (fun hc63 hE=>?_)
       ·refine region ?_;refine S As (nil ?_);exact hK42 _ ((22:Int),y20_c0,Z9.zero) Weak.toA hE
       refine AWp.exit ?_;exact hK26 _ (y20_c0,y21_l0,y22_l1) Weak.toA hE
      rintro ⟨s22_43,y44_c0,y45_l2⟩ hE;try dsimp only at hE
      unfold coerce_coercer_object_j42 at hE;refine seqK fun K46 hK46=>?_;refine seqR (S Mv (S BI (nil ?_)));refine cE hE (fun hc48 hE=>?_) (fun hc48 hE=>?_)
      ·refine seqR (S BU (S Mv ?_));refine Sf ?_;refine S As (nil ?_);refine AWp.ret ?_;repeat (first|refine xBlock_ret ?_|refine xThen_ret ?_)
       obtain rfl:=Option.some.inj hE;refine retQ.retF (H.set c0 (some (.cells (Z0.c y44_c0)))) rfl ⟨rfl,rfl⟩ ?_;intro id_ o_ he_;have e_tk14_9:id_≠tk14_9:=fun e_=>by subst e_; simp_all [Heap.set]
       have e_tk14_10:id_≠tk14_10:=fun e_=>by subst e_; simp_all [Heap.set]
       rw [<- he_];simp only [Heap.set] at he_ ⊢
       (repeat' split)<;>simp_all
      refine sk hK46 ?_;clear hK46 K46;refine AWp.draw rfl ?_;refine Sd FL (Sd LL (Sd Fv (Sd Ld (Sd BV ?_))));obtain⟨x50,gx50,hE⟩:=bO hE;refine DOps.sH (appM (f:=strE) (TK rfl) rfl (TK rfl) (TK rfl) ⟨_,rfl⟩ rfl rfl (by decide) rfl rfl rfl rfl hpG rfl gx50) rfl ?_;refine DOps.Dh (((H.set c0 (some (.cells (Z0.c y44_c0)))).set tk14_9 (some (.tok 5 y22_l1.FItems.l.length))).set tk14_10 (some (.tok 1 x50.l.length))) ?_
      refine Sd FL (Sd LL (Sd LL (Sd BV ?_)));obtain⟨x51,gx51,hE⟩:=bO hE;refine DOps.sH (appM (f:=Z9.c) (TK rfl) rfl (TK rfl) (TK rfl) ⟨_,rfl⟩ rfl rfl (by decide) rfl rfl rfl rfl hpG rfl gx51) rfl ?_;refine DOps.Dh (((H.set c0 (some (.cells (Z0.c y44_c0)))).set tk14_9 (some (.tok 5 x51.l.length))).set tk14_10 (some (.tok 1 x50.l.length))) ?_;refine Sd FL ?_;refine DOps.sLn (storeL1 (TK rfl) rfl rfl rfl rfl (by repeat (first|exact SetAt.zero|apply SetAt.succ)) (by repeat (first|exact SetAt.zero|apply SetAt.succ))) ?_
      refine Sd FL ?_;refine DOps.sLn (storeL1 (TK rfl) rfl rfl rfl rfl (by repeat (first|exact SetAt.zero|apply SetAt.succ)) (by repeat (first|exact SetAt.zero|apply SetAt.succ))) ?_;refine DOps.nil (by decide +kernel) ?_;exact hK26 _ (y44_c0,y21_l0,(Z9.mk y22_l1.FKind y22_l1.FInt y22_l1.FText x51.nl x51.l x50)) Weak.toA hE
     rintro ⟨y27_c0,y28_l0,y29_l1⟩ hE;try dsimp only at hE
     unfold coerce_coercer_object_j26 at hE;refine region ?_;refine SI ?_;refine S Mv (nil ?_);exact hK18 _ (n18,(s49_19+1),y27_c0,y28_l0,y29_l1) Weak.toA hE (Nat.lt_succ_self _)
    refine AWp.exit ?_;exact hK11 _ (y20_c0,y21_l0,y22_l1) Weak.toA hE
 rintro ⟨y12_c0,y13_l0,y14_l1⟩ hE;try dsimp only at hE
 unfold coerce_coercer_object_j11 at hE;refine seqK fun K15 hK15=>?_;refine AWp.relocal 1 _ rfl (fun j w cs hh hx=>untok_cell 3 hx rfl) ?_;refine AWp.relocal 1 _ rfl (fun j w cs hh hx=>untok_cell 4 hx rfl) ?_;refine AWp.relocal 1 (Z9.c y14_l1) rfl (fun j w cs hh hx=>by rw [Z9.cu_eq]; exact hx) ?_;refine region ?_;refine S LL ?_;refine Sf ?_;refine S As (nil ?_);refine hK15 _ ?_;clear hK15 K15;refine AWp.ret ?_
 repeat (first|refine xBlock_ret ?_|refine xThen_ret ?_)
 obtain rfl:=Option.some.inj hE;refine retQ.retF (H.set c0 (some (.cells (Z0.c y12_c0)))) rfl ⟨rfl,rfl⟩ ?_;intro id_ o_ he_;have e_tk14_9:id_≠tk14_9:=fun e_=>by subst e_; simp_all [Heap.set]
 have e_tk14_10:id_≠tk14_10:=fun e_=>by subst e_; simp_all [Heap.set]
 rw [<- he_];simp only [Heap.set] at he_ ⊢
 (repeat' split)<;>simp_all
theorem Z17_step (n:Nat) (ih_38:∀{a0:Z0}{a1:TRef}{a2:Z9}{a3:Int}{oT:Ab.Obj}{c0 gT:Nat}{r:Z9×Int×Z0},coerce_coercer_at_n n a0 a1 a2 a3=some r->∀(H:Heap) (hc0:H c0=some (.cells (Z0.c a0))) (hgT:H gT=some oT) (hoT:IsTab Tryz.prog oT),ACalls Tryz.prog 38 [.d (.ptr c0 0),.agg (TRef.c a1),.agg (Z9.c a2),.d (.int .i64 a3)] H fun v h'=>v=.tup [.agg (Z9.c r.1),.d (.int .i64 r.2.1)]/\h'=(H.set c0 (some (.cells (Z0.c r.2.2))))) (ih_69:∀{a0:Z0}{a1:TRef}{a2:Z9}{a3:Int}{oT:Ab.Obj}{c0 gT:Nat}{r:Z9×Int×Z0},coerce_coercer_list_n n a0 a1 a2 a3=some r->∀(H:Heap) (hc0:H c0=some (.cells (Z0.c a0))) (hgT:H gT=some oT) (hoT:IsTab Tryz.prog oT),ACalls Tryz.prog 69 [.d (.ptr c0 0),.agg (TRef.c a1),.agg (Z9.c a2),.d (.int .i64 a3)] H fun v h'=>v=.tup [.agg (Z9.c r.1),.d (.int .i64 r.2.1)]/\h'=(H.set c0 (some (.cells (Z0.c r.2.2))))) (ih_70:∀{a0:Z0}{a1:TDef}{a2:Z9}{a3:Int}{oT:Ab.Obj}{c0 gT:Nat}{r:Z9×Int×Z0},coerce_coercer_object_n n a0 a1 a2 a3=some r->∀(H:Heap) (hc0:H c0=some (.cells (Z0.c a0))) (hgT:H gT=some oT) (hoT:IsTab Tryz.prog oT),ACalls Tryz.prog 70 [.d (.ptr c0 0),.agg (TDef.c a1),.agg (Z9.c a2),.d (.int .i64 a3)] H fun v h'=>v=.tup [.agg (Z9.c r.1),.d (.int .i64 r.2.1)]/\h'=(H.set c0 (some (.cells (Z0.c r.2.2))))) (ih_90:∀{a0:Z0}{a1:Z6}{a2:Int}{oT:Ab.Obj}{c0 gT:Nat}{r:Z9×Int×Z0},Z17_n n a0 a1 a2=some r->∀(H:Heap) (hc0:H c0=some (.cells (Z0.c a0))) (hgT:H gT=some oT) (hoT:IsTab Tryz.prog oT),ACalls Tryz.prog 90 [.d (.ptr c0 0),.agg (Z6.c a1),.d (.int .i64 a2)] H fun v h'=>v=.tup [.agg (Z9.c r.1),.d (.int .i64 r.2.1)]/\h'=(H.set c0 (some (.cells (Z0.c r.2.2))))):∀{a0:Z0}{a1:Z6}{a2:Int}{oT:Ab.Obj}{c0 gT:Nat}{r:Z9×Int×Z0},Z17_n (n+1) a0 a1 a2=some r->∀(H:Heap) (hc0:H c0=some (.cells (Z0.c a0))) (hgT:H gT=some oT) (hoT:IsTab Tryz.prog oT),ACalls Tryz.prog 90 [.d (.ptr c0 0),.agg (Z6.c a1),.d (.int .i64 a2)] H fun v h'=>v=.tup [.agg (Z9.c r.1),.d (.int .i64 r.2.1)]/\h'=(H.set c0 (some (.cells (Z0.c r.2.2)))):=by
 intro a0 a1 a2 oT c0 gT r hE H hc0 hgT hoT;rw [Z17_n] at hE
 apply ACalls.of_wpD (fn:=Tryz.f90) (c:=_) Tryz.tab_ok (fun _ _=>Tryz.call90 _ _) Tryz.func90 rfl (n:=35) rfl (rs:=[.cell 6 31,.tmp 7]) rfl rfl
 have ne_gT_c0:gT≠c0:=fun e_=>by subst e_; obtain⟨_,_,_,e2_,_⟩:=hoT; simp_all
 refine Via.heqA (h':=(H.set c0 (some (.cells (Z0.c a0))))) (by funext n_; simp only [Heap.set]; (repeat' split)<;>simp_all) ?_;refine Via.seqK fun K1 hK1=>?_;refine region ?_;refine S BX (S BX ?_);refine Sl ?_;refine S As (nil ?_);refine hK1 _ ?_;refine Via.seqK fun K2 hK2=>?_;refine AWp.draw rfl ?_;refine Sd Ld (Sd NP ?_);refine DOps.s0 (fieldP (TK rfl) rfl rfl (TK rfl) rfl rfl) rfl ?_;refine DOps.s0 (loadP (TK rfl) rfl rfl hpG rfl) rfl ?_
 refine Sd Ld (Sd NP ?_);refine DOps.s0 (fieldP (TK rfl) rfl rfl (TK rfl) rfl rfl) rfl ?_;refine DOps.s0 (loadP (TK rfl) rfl rfl hpG rfl) rfl ?_;refine DOps.sB (TK rfl) rfl rfl ?_ (by repeat (first|exact Snoc.nil|apply Snoc.cons));refine DOps.sB (TK rfl) rfl rfl ?_ (by repeat (first|exact Snoc.nil|apply Snoc.cons));refine DOps.sLn (storeLFA (TK rfl) rfl rfl rfl rfl rfl) ?_;refine DOps.sLn (storeL1 (TK rfl) rfl rfl rfl rfl (by repeat (first|exact SetAt.zero|apply SetAt.succ)) (by repeat (first|exact SetAt.zero|apply SetAt.succ))) ?_
 refine DOps.nil (by decide +kernel) ?_;refine hK2 _ ?_;clear hK2 K2;refine Via.freeze 9 _ rfl (by repeat (first|exact Snoc.nil|apply Snoc.cons)) (KA 2 (KA 3 (KA 4 (KA 6 (KA 8 Keeps.nil))))) ?_;refine Via.freeze 8 _ rfl (by repeat (first|exact Snoc.nil|apply Snoc.cons)) (KA 2 (KA 3 (KA 4 (KA 6 (KA 9 Keeps.nil))))) ?_;refine Via.seqK fun K3 hK3=>?_;refine AWp.draw rfl ?_;refine Sd Ld (Sd Ld (Sd BU (Sd NP ?_)))
 refine DOps.s0 (fieldP (TK rfl) rfl rfl (TK rfl) rfl rfl) rfl ?_;refine DOps.sHn (storeP' (TK rfl) rfl rfl hpG rfl (Nat.le_of_ble_eq_true rfl) rfl rfl) rfl rfl ?_;refine DOps.Dh (H.set c0 (some (.cells (Z0.c (Z0.mk a0.Fd (Z9.mk (0:Int) (0:Int) ([]:Bs) true ([]) (Sl.nil:Sl Bs)) a0.Fliteral a0.Fnodes))))) ?_;refine Sd NP ?_;refine DOps.s0 (fieldP (TK rfl) rfl rfl (TK rfl) rfl rfl) rfl ?_;refine DOps.sHn (storeP1 (TK rfl) rfl rfl hpG rfl (by repeat (first|exact SetAt.zero|apply SetAt.succ))) rfl rfl ?_
 refine DOps.Dh (H.set c0 (some (.cells (Z0.c (Z0.mk a0.Fd (Z9.mk (0:Int) (0:Int) ([]:Bs) true ([]) (Sl.nil:Sl Bs)) true a0.Fnodes))))) ?_;refine DOps.nil (by decide +kernel) ?_;refine hK3 _ ?_;refine Via.done ⟨_,rfl,rfl,fun amb=>?_⟩;refine seqR (S Ld (S Fv (S Ld (S Fv (S Ld (S Mv ?_))))));obtain⟨x5,gx5,hE⟩:=bO hE;refine sH (callH rfl rfl (ih_38 (gT:=gT) (oT:=oT) gx5 _ hpG hpG (by assumption))) rfl ?_
 refine hq (H.set c0 (some (.cells (Z0.c x5.2.2)))) ?_;refine S EX (S EX ?_);refine Sf ?_;refine S As (nil ?_);obtain⟨x6,gx6,hE⟩:=bO hE;refine AWp.ret ?_;repeat (first|refine xBlock_ret ?_|refine xThen_ret ?_|refine xBlock_normal ?_|refine xThen_exit ?_|refine xBlock_exit ?_)
 refine⟨.inr rfl, ?_⟩;obtain rfl:=Option.some.inj hE;refine ACallsD.mono (Z18_walk gx6 _ hpG) fun _ _ ⟨_,e_⟩=>?_;subst e_;refine⟨_,(H.set c0 (some (.cells (Z0.c x6)))),rfl, ?_,⟨rfl,rfl⟩⟩;refine fun id_ o_ he_=>?_;rw [<- he_]; clear he_;exact congrFun (by first|rfl|exact(Heap.set_set _ _ _ _).symm|(rw [Heap.set_set]; rfl)|(funext n_; simp only [Heap.set]; (repeat' split)<;>first|rfl|(exfalso; simp_all; done)|(simp_all; done))) id_
theorem coerce_coercer_at_all:∀(n:Nat),(∀{a0:Z0}{a1:TRef}{a2:Z9}{a3:Int}{oT:Ab.Obj}{c0 gT:Nat}{r:Z9×Int×Z0},coerce_coercer_at_n n a0 a1 a2 a3=some r->∀(H:Heap) (hc0:H c0=some (.cells (Z0.c a0))) (hgT:H gT=some oT) (hoT:IsTab Tryz.prog oT),ACalls Tryz.prog 38 [.d (.ptr c0 0),.agg (TRef.c a1),.agg (Z9.c a2),.d (.int .i64 a3)] H fun v h'=>v=.tup [.agg (Z9.c r.1),.d (.int .i64 r.2.1)]/\h'=(H.set c0 (some (.cells (Z0.c r.2.2)))))/\(∀{a0:Z0}{a1:TRef}{a2:Z9}{a3:Int}{oT:Ab.Obj}{c0 gT:Nat}{r:Z9×Int×Z0},coerce_coercer_list_n n a0 a1 a2 a3=some r->∀(H:Heap) (hc0:H c0=some (.cells (Z0.c a0))) (hgT:H gT=some oT) (hoT:IsTab Tryz.prog oT),ACalls Tryz.prog 69 [.d (.ptr c0 0),.agg (TRef.c a1),.agg (Z9.c a2),.d (.int .i64 a3)] H fun v h'=>v=.tup [.agg (Z9.c r.1),.d (.int .i64 r.2.1)]/\h'=(H.set c0 (some (.cells (Z0.c r.2.2)))))/\(∀{a0:Z0}{a1:TDef}{a2:Z9}{a3:Int}{oT:Ab.Obj}{c0 gT:Nat}{r:Z9×Int×Z0},coerce_coercer_object_n n a0 a1 a2 a3=some r->∀(H:Heap) (hc0:H c0=some (.cells (Z0.c a0))) (hgT:H gT=some oT) (hoT:IsTab Tryz.prog oT),ACalls Tryz.prog 70 [.d (.ptr c0 0),.agg (TDef.c a1),.agg (Z9.c a2),.d (.int .i64 a3)] H fun v h'=>v=.tup [.agg (Z9.c r.1),.d (.int .i64 r.2.1)]/\h'=(H.set c0 (some (.cells (Z0.c r.2.2)))))/\(∀{a0:Z0}{a1:Z6}{a2:Int}{oT:Ab.Obj}{c0 gT:Nat}{r:Z9×Int×Z0},Z17_n n a0 a1 a2=some r->∀(H:Heap) (hc0:H c0=some (.cells (Z0.c a0))) (hgT:H gT=some oT) (hoT:IsTab Tryz.prog oT),ACalls Tryz.prog 90 [.d (.ptr c0 0),.agg (Z6.c a1),.d (.int .i64 a2)] H fun v h'=>v=.tup [.agg (Z9.c r.1),.d (.int .i64 r.2.1)]/\h'=(H.set c0 (some (.cells (Z0.c r.2.2)))))
 | 0=>⟨fun hE=>by first|cases hE|(rw [coerce_coercer_at_n] at hE; cases hE),fun hE=>by first|cases hE|(rw [coerce_coercer_list_n] at hE; cases hE),fun hE=>by first|cases hE|(rw [coerce_coercer_object_n] at hE; cases hE),fun hE=>by first|cases hE|(rw [Z17_n] at hE; cases hE)⟩
 | n+1=>⟨coerce_coercer_at_step n (coerce_coercer_at_all n).1 (coerce_coercer_at_all n).2.1 (coerce_coercer_at_all n).2.2.1 (coerce_coercer_at_all n).2.2.2,coerce_coercer_list_step n (coerce_coercer_at_all n).1 (coerce_coercer_at_all n).2.1 (coerce_coercer_at_all n).2.2.1 (coerce_coercer_at_all n).2.2.2,coerce_coercer_object_step n (coerce_coercer_at_all n).1 (coerce_coercer_at_all n).2.1 (coerce_coercer_at_all n).2.2.1 (coerce_coercer_at_all n).2.2.2,Z17_step n (coerce_coercer_at_all n).1 (coerce_coercer_at_all n).2.1 (coerce_coercer_at_all n).2.2.1 (coerce_coercer_at_all n).2.2.2⟩
def coerce_coercer_at (a0:Z0) (a1:TRef) (a2:Z9) (a3:Int):Option (Z9×Int×Z0):=coerce_coercer_at_n F0 a0 a1 a2 a3
theorem coerce_coercer_at_walk {a0:Z0}{a1:TRef}{a2:Z9}{a3:Int}{oT:Ab.Obj}{c0 gT:Nat}{r:Z9×Int×Z0}(hE:coerce_coercer_at a0 a1 a2 a3=some r) (H:Heap) (hc0:H c0=some (.cells (Z0.c a0))) (hgT:H gT=some oT) (hoT:IsTab Tryz.prog oT):ACalls Tryz.prog 38 [.d (.ptr c0 0),.agg (TRef.c a1),.agg (Z9.c a2),.d (.int .i64 a3)] H fun v h'=>v=.tup [.agg (Z9.c r.1),.d (.int .i64 r.2.1)]/\h'=(H.set c0 (some (.cells (Z0.c r.2.2)))):=(coerce_coercer_at_all F0).1 hE H hc0 hgT hoT
end Go.Proofs

namespace Go.Proofs
open Go Go.Ab
open AOps Cert AWp Keeps KeepsT
variable {lou:Lou}
def Z12 (a0:TDoc) (a1:TRef) (a2:Z9) (a3:Z9):Option (Z9×Int):=(Z16 (Z0.mk a0 a3 true (0:Int)) a2).bind fun x6=>bif x6 then((Z71 a0 a1.FName).bind fun x10=>bif (!x10) then(some ((Z9.mk (0:Int) (0:Int) ([]:Bs) true ([]) (Sl.nil:Sl Bs)),(10:Int))) else(some ((Z9.mk (0:Int) (0:Int) ([]:Bs) true ([]) (Sl.nil:Sl Bs)),(8:Int)))) else((coerce_coercer_at (Z0.mk a0 a3 true (0:Int)) a1 a2 (1:Int)).bind fun x15=>(Z20 x15.1 x15.2.1).bind fun x16=>some (x16.1,x16.2))
theorem Z12_walk {a0:TDoc}{a1:TRef}{a2 a3:Z9}{oT:Ab.Obj}{gT:Nat}{r:Z9×Int}(hE:Z12 a0 a1 a2 a3=some r) (H:Heap) (hgT:H gT=some oT) (hoT:IsTab Tryz.prog oT):ACalls Tryz.prog 17 [.agg (TDoc.c a0),.agg (TRef.c a1),.agg (Z9.c a2),.agg (Z9.c a3)] H fun v h'=>v=.tup [.agg (Z9.c r.1),.d (.int .i64 r.2)]/\h'=H:=by
 unfold Z12 at hE;refine ACalls.oW 34 [.cell 8 31,.tmp 9] Tryz.call17 Tryz.func17 ?_;refine seqR (S BX (S BX (S BX (S BX ?_))));refine Sl ?_;refine S As (nil ?_);refine seqR (S Ld (S Ld (S BU ?_)));refine sE (StepE.boxO rfl) rfl (fun _ _ _ ⟨id14_3,hid14_3,e1,e2,e3⟩=>?_); subst e1 e2 e3;have ne_id14_3_gT:id14_3≠gT:=fun e_=>by subst e_; simp_all
 refine hq (H.set id14_3 (some (.cells (Z0.c (Z0.mk a0 a3 true (0:Int)))))) ?_;refine S As (nil ?_);refine seqK fun K4 hK4=>?_;refine seqR (S Mv (S Ld ?_));obtain⟨x6,gx6,hE⟩:=bO hE;refine s0 (callR rfl rfl (Z16_walk gx6 _ hpG)) rfl ?_;refine nil ?_;refine cE hE (fun hc7 hE=>?_) (fun hc7 hE=>?_)
 ·refine seqK fun K8 hK8=>?_;refine seqR (S Ld (S Fv (S Ld ?_)));obtain⟨x10,gx10,hE⟩:=bO hE;refine Sc rfl rfl (Z71_walk gx10) ?_;refine S NB (nil ?_);refine cE hE (fun hc11 hE=>?_) (fun hc11 hE=>?_)
  ·refine seqR (S BU ?_);refine Sf ?_;refine S As (nil ?_);refine AWp.ret ?_;repeat (first|refine xBlock_ret ?_|refine xThen_ret ?_)
   obtain rfl:=Option.some.inj hE;refine retQ.retF H rfl ⟨rfl,rfl⟩ ?_
   first|exact Heap.sub_set hid14_3|(simp only [Heap.set_set]; exact Heap.sub_set hid14_3)
  refine sk hK8 ?_;clear hK8 K8;refine seqR (S BU ?_);refine Sf ?_;refine S As (nil ?_);refine AWp.ret ?_;repeat (first|refine xBlock_ret ?_|refine xThen_ret ?_)
  obtain rfl:=Option.some.inj hE;refine retQ.retF H rfl ⟨rfl,rfl⟩ ?_
  first|exact Heap.sub_set hid14_3|(simp only [Heap.set_set]; exact Heap.sub_set hid14_3)
 refine sk hK4 ?_;clear hK4 K4;refine seqR (S Mv (S Ld (S Ld ?_)));obtain⟨x15,gx15,hE⟩:=bO hE;refine sH (callH rfl rfl (coerce_coercer_at_walk (gT:=gT) (oT:=oT) gx15 _ hpG hpG (by assumption))) rfl ?_;refine hq (H.set id14_3 (some (.cells (Z0.c x15.2.2)))) ?_;refine S EX (S EX ?_);obtain⟨x16,gx16,hE⟩:=bO hE;refine Sc rfl rfl (Z20_walk gx16) ?_;refine S EX (S EX ?_);refine Sf ?_;refine S As (nil ?_)
 refine AWp.ret ?_;repeat (first|refine xBlock_ret ?_|refine xThen_ret ?_)
 obtain rfl:=Option.some.inj hE;refine retQ.retF H rfl ⟨rfl,rfl⟩ ?_
 first|exact Heap.sub_set hid14_3|(simp only [Heap.set_set]; exact Heap.sub_set hid14_3)
def Z11 (a0:Z6) (a1:Bs) (a2:TDoc) (a3:(Sl Z3)):Option (Sl Z3):=bif (!a0.FHas) then(some a3) else((Z12 a2 a0.FType a0.FDefault (Z9.mk (0:Int) (0:Int) ([]:Bs) true ([]) (Sl.nil:Sl Bs))).bind fun x6=>bif (!decide (x6.2=(0:Int))) then((appC 24 a3 (⟨false,[(Z3.mk (23:Int) a1)]⟩:Sl Z3)).bind fun x9=>some x9) else(some a3))
theorem Z11_walk {a0:Z6}{a1:Bs}{a2:TDoc}{a3:Sl Z3}{oT:Ab.Obj}{c3 c3_g gT:Nat}{r:Sl Z3}(hE:Z11 a0 a1 a2 a3=some r) (H:Heap) (hc3:H c3=some (.cells [Sl.d 2 Z3.c (some c3_g) a3])) (ht3:H c3_g=some (.tok 2 a3.l.length)) (hgT:H gT=some oT) (hoT:IsTab Tryz.prog oT):ACalls Tryz.prog 29 [.agg (Z6.c a0),.d (.str a1),.d (.view (TDoc.c a2)),.d (.ptr c3 0)] H fun v h'=>v=.tup []/\h'=((H.set c3_g (some (.tok 2 r.l.length))).set c3 (some (.cells [Sl.d 2 Z3.c (some c3_g) r]))):=by
 unfold Z11 at hE;refine ACalls.oW 28 [] Tryz.call29 Tryz.func29 ?_;have ne_c3_c3_g:c3≠c3_g:=fun e_=>by subst e_; simp_all
 have ne_gT_c3_g:gT≠c3_g:=fun e_=>by subst e_; obtain⟨_,_,_,e2_,_⟩:=hoT; simp_all
 have ne_gT_c3:gT≠c3:=fun e_=>by subst e_; obtain⟨_,_,_,e2_,_⟩:=hoT; simp_all
 refine AWp.heqA (h':=((H.set c3_g (some (.tok 2 a3.l.length))).set c3 (some (.cells ([Sl.d 2 Z3.c (some c3_g) a3]))))) (by funext n_; simp only [Heap.set]; (repeat' split)<;>simp_all) ?_;refine seqR (S BX (nil ?_));refine seqK fun K2 hK2=>?_;refine seqR (S Fv (S Ld (S NB (nil ?_))));refine cE hE (fun hc4 hE=>?_) (fun hc4 hE=>?_)
 ·exact rt hE
 refine sk hK2 ?_;clear hK2 K2;refine seqR (S Ld (S Fv (S Ld (S Fv (S Ld (S BU ?_))))));obtain⟨x6,gx6,hE⟩:=bO hE;refine s0 (callR rfl rfl (Z12_walk (gT:=gT) (oT:=oT) gx6 _ hpG (by assumption))) rfl ?_;refine S Mv (S EX (S EX ?_));refine Sl ?_;refine Sf ?_;refine S As (nil ?_);refine freezeA 6 _ rfl (KA 1 (KA 3 (KA 7 Keeps.nil))) ?_;refine seqR (S Mv (S BI (nil ?_)));refine cE hE (fun hc8 hE=>?_) (fun hc8 hE=>?_)
 ·refine region ?_;refine s0 (loadP (TK rfl) rfl rfl hpG rfl) rfl ?_;refine S Mv (S BU (S BV ?_));obtain⟨x9,gx9,hE⟩:=bO hE;refine SH (am Z3.c (TK rfl) rfl (TK rfl) (TK rfl) gx9) ?_;refine hq ((H.set c3_g (some (.tok 2 x9.l.length))).set c3 (some (.cells ([Sl.d 2 Z3.c (some c3_g) a3])))) ?_;refine sHn (storeP1 (TK rfl) rfl rfl hpG rfl (by repeat (first|exact SetAt.zero|apply SetAt.succ))) rfl rfl ?_
  refine hq ((H.set c3_g (some (.tok 2 x9.l.length))).set c3 (some (.cells ([Sl.d 2 Z3.c (some c3_g) x9])))) ?_;refine nil ?_;repeat (first|refine xBlock_normal ?_|refine xThen_exit ?_|refine xBlock_exit ?_)
  obtain rfl:=Option.some.inj hE;refine retQ.normalF ((H.set c3_g (some (.tok 2 x9.l.length))).set c3 (some (.cells ([Sl.d 2 Z3.c (some c3_g) x9])))) (xs:=[]) rfl ⟨rfl,rfl⟩ ?_;exact(fun _ _ h=>h)
 refine AWp.skip ?_;repeat (first|refine xBlock_normal ?_|refine xThen_exit ?_|refine xBlock_exit ?_)
 obtain rfl:=Option.some.inj hE;refine retQ.normalF ((H.set c3_g (some (.tok 2 a3.l.length))).set c3 (some (.cells ([Sl.d 2 Z3.c (some c3_g) a3])))) (xs:=[]) rfl ⟨rfl,rfl⟩ ?_;exact(fun _ _ h=>h)
def Z10_j6  (y7_id3_3:(Sl Z3)):Option (Sl Z3):=some y7_id3_3
def Z10_j17 (s17_12:Nat) (k_next_11:Nat->(Sl Z3)->Option (Sl Z3)) (y18_id3_3:(Sl Z3)):Option (Sl Z3):=k_next_11 (s17_12+1) y18_id3_3
def Z10_l25 (a0:TDoc) (s17_12:Nat) (x20:TDef) (k_next_11:Nat->(Sl Z3)->Option (Sl Z3)):Nat->Nat->(Sl Z3)->Option (Sl Z3)
 | 0,_,_=>none
 | n25+1,s54_26,y27_id3_3=>bif (decide (((s54_26:Nat):Int)<((x20.FInputs.l.length:Nat):Int))) then((x20.FInputs.l[s54_26]?).bind fun x33=>(catC x20.FName ([46]:Bs)).bind fun x34=>(catC x34 x33.FName).bind fun x35=>(Z11 x33 x35 a0 y27_id3_3).bind fun x36=>(Z10_l25 a0 s17_12 x20 k_next_11 n25) (s54_26+1) x36) else(Z10_j17 s17_12 k_next_11 y27_id3_3)
def Z10_j21 (a0:TDoc) (s17_12:Nat) (x20:TDef) (k_next_11:Nat->(Sl Z3)->Option (Sl Z3)) (y22_id3_3:(Sl Z3)):Option (Sl Z3):=Z10_l25 a0 s17_12 x20 k_next_11 (x20.FInputs.l.length+1) 0 y22_id3_3
def Z10_j45 (s24_40:Nat) (k_next_39:Nat->(Sl Z3)->Option (Sl Z3)) (y46_id3_3:(Sl Z3)):Option (Sl Z3):=k_next_39 (s24_40+1) y46_id3_3
def Z10_l51 (a0:TDoc) (x20:TDef) (s24_40:Nat) (x48:Z4) (k_next_39:Nat->(Sl Z3)->Option (Sl Z3)):Nat->Nat->(Sl Z3)->Option (Sl Z3)
 | 0,_,_=>none
 | n51+1,s31_52,y53_id3_3=>bif (decide (((s31_52:Nat):Int)<((x48.FArgs.l.length:Nat):Int))) then((x48.FArgs.l[s31_52]?).bind fun x59=>(catC x20.FName ([46]:Bs)).bind fun x60=>(catC x60 x48.FName).bind fun x61=>(catC x61 ([40]:Bs)).bind fun x62=>(catC x62 x59.FName).bind fun x63=>(catC x63 ([41]:Bs)).bind fun x64=>(Z11 x59 x64 a0 y53_id3_3).bind fun x65=>(Z10_l51 a0 x20 s24_40 x48 k_next_39 n51) (s31_52+1) x65) else(Z10_j45 s24_40 k_next_39 y53_id3_3)
def Z10_l39 (a0:TDoc) (s17_12:Nat) (x20:TDef) (k_next_11:Nat->(Sl Z3)->Option (Sl Z3)):Nat->Nat->(Sl Z3)->Option (Sl Z3)
 | 0,_,_=>none
 | n39+1,s24_40,y41_id3_3=>bif (decide (((s24_40:Nat):Int)<((x20.FFields.l.length:Nat):Int))) then((x20.FFields.l[s24_40]?).bind fun x48=>Z10_l51 a0 x20 s24_40 x48 ((Z10_l39 a0 s17_12 x20 k_next_11 n39)) (x48.FArgs.l.length+1) 0 y41_id3_3) else(Z10_j21 a0 s17_12 x20 k_next_11 y41_id3_3)
def Z10_l11 (a0:TDoc) :Nat->Nat->(Sl Z3)->Option (Sl Z3)
 | 0,_,_=>none
 | n11+1,s17_12,y13_id3_3=>bif (decide (((s17_12:Nat):Int)<((a0.FDefs.l.length:Nat):Int))) then((a0.FDefs.l[s17_12]?).bind fun x20=>Z10_l39 a0 s17_12 x20 ((Z10_l11 a0 n11)) (x20.FFields.l.length+1) 0 y13_id3_3) else(Z10_j6   y13_id3_3)
def Z10 (a0:TDoc):Option (Sl Z3):=Z10_l11 a0 (a0.FDefs.l.length+1) 0 (Sl.nil:Sl Z3)
theorem Z10_walk {a0:TDoc}{oT:Ab.Obj}{gT:Nat}{r:Sl Z3}(hE:Z10 a0=some r) (H:Heap) (hgT:H gT=some oT) (hoT:IsTab Tryz.prog oT):ACalls Tryz.prog 12 [.agg (TDoc.c a0)] H fun v h'=>v=.a (.d (Sl.d 2 Z3.c none r))/\h'=H:=by
 unfold Z10 at hE;refine ACalls.oW 70 [.tmp 2] Tryz.call12 Tryz.func12 ?_;refine seqR (S BX ?_);refine s0 (assignNil (k':=2) rfl) rfl ?_;refine nil ?_;refine seqR ?_;refine AOps.tok 2 fun tk3_4 htk3_4=>?_;have ne_tk3_4_gT:tk3_4≠gT:=fun e_=>by subst e_; simp_all
 refine sE (StepE.allocO (TK rfl) rfl) rfl (fun _ _ _ ⟨id3_3,hid3_3,e1,e2,e3⟩=>?_); subst e1 e2 e3;obtain⟨ne_id3_3_tk3_4,hid3_3⟩:=Heap.set_fresh hid3_3;have ne_id3_3_gT:id3_3≠gT:=fun e_=>by subst e_; simp_all
 refine AOps.recell id3_3 _ hpG (fun j w cs hh hx=>tok_cell 0 2 2 hh (t:=tk3_4) hpG hx rfl) ?_;refine hq ((H.set tk3_4 (some (.tok 2 0))).set id3_3 (some (.cells ([Sl.d 2 Z3.c (some tk3_4) (Sl.nil:Sl Z3)])))) ?_;refine nil ?_;refine seqR ?_;refine s0 (makeFunc rfl) rfl ?_;refine S As (nil ?_);refine seqJH (TA 3 KeepsT.nil) (fun(z:(Sl Z3))=>[]) (fun z=>((H.set tk3_4 (some (.tok 2 z.l.length))).set id3_3 (some (.cells ([Sl.d 2 Z3.c (some tk3_4) z]))))) (fun z=>Z10_j6 z=some r) ?_ ?_
 ·intro K6 hK6;refine seqR (S Fv (S Ld ?_));refine sLen (f:=TDef.c) (s:=a0.FDefs) (TK rfl) rfl rfl rfl rfl fun hL10=>?_;refine S Mv (nil ?_);refine block ?_;refine loopH (TA 3 (TA 4 (TA 15 (TA 16 KeepsT.nil)))) (fun(z:Nat×Nat×(Sl Z3))=>[(17,.a (.d (.int .i64 ((z.2.1:Nat):Int))))]) (fun z=>((H.set tk3_4 (some (.tok 2 z.2.2.l.length))).set id3_3 (some (.cells ([Sl.d 2 Z3.c (some tk3_4) z.2.2]))))) (fun z=>z.1) (fun z=>Z10_l11 a0 z.1 z.2.1 z.2.2=some r) ((a0.FDefs.l.length+1),0,(Sl.nil:Sl Z3)) hE Weak.toA ?_
  rintro ⟨n11,s17_12,y13_id3_3⟩ hE K11 hK11;try dsimp only at hE
  cases n11 with
  | zero=>cases hE
  | succ n11 =>
    rw [Z10_l11] at hE;refine seqR (S BI (nil ?_));refine seqK fun K15 hK15=>?_;refine cE hE (fun hc16 hE=>?_) (fun hc16 hE=>?_)
    ·try dsimp only at hc16
     have hf16:=of_decide_eq_true hc16;refine sk hK15 ?_;clear hK15 K15;refine seqJH (TA 3 (TA 4 (TA 15 (TA 16 (TA 17 KeepsT.nil))))) (fun(z:(Sl Z3))=>[]) (fun z=>((H.set tk3_4 (some (.tok 2 z.l.length))).set id3_3 (some (.cells ([Sl.d 2 Z3.c (some tk3_4) z]))))) (fun z=>Z10_j17 s17_12 ((Z10_l11 a0 n11)) z=some r) ?_ ?_
     ·intro K17 hK17;refine block ?_;refine seqR ?_;obtain⟨x20,gx20,hE⟩:=bO hE;refine S (ix TDef.c s17_12 gx20) (S Ld ?_);refine Sl ?_;refine Sf ?_;refine nil ?_;refine freezeA 6 _ rfl (KA 3 (KA 4 (KA 15 (KA 16 (KA 17 Keeps.nil))))) ?_;refine seqJH (TA 3 (TA 4 (TA 6 (TA 15 (TA 16 (TA 17 KeepsT.nil)))))) (fun(z:(Sl Z3))=>[]) (fun z=>((H.set tk3_4 (some (.tok 2 z.l.length))).set id3_3 (some (.cells ([Sl.d 2 Z3.c (some tk3_4) z]))))) (fun z=>Z10_j21 a0 s17_12 x20 ((Z10_l11 a0 n11)) z=some r) ?_ ?_
      ·intro K21 hK21;refine seqR (S Fv (S Ld ?_));refine sLen (f:=Z4.c) (s:=x20.FFields) (TK rfl) rfl rfl rfl rfl fun hL38=>?_;refine S Mv (nil ?_);refine block ?_;refine loopH (TA 3 (TA 4 (TA 6 (TA 15 (TA 16 (TA 17 (TA 22 (TA 23 KeepsT.nil)))))))) (fun(z:Nat×Nat×(Sl Z3))=>[(24,.a (.d (.int .i64 ((z.2.1:Nat):Int))))]) (fun z=>((H.set tk3_4 (some (.tok 2 z.2.2.l.length))).set id3_3 (some (.cells ([Sl.d 2 Z3.c (some tk3_4) z.2.2]))))) (fun z=>z.1) (fun z=>Z10_l39 a0 s17_12 x20 ((Z10_l11 a0 n11)) z.1 z.2.1 z.2.2=some r) ((x20.FFields.l.length+1),0,y13_id3_3) hE Weak.toA ?_
       rintro ⟨n39,s24_40,y41_id3_3⟩ hE K39 hK39;try dsimp only at hE
       cases n39 with
       | zero=>cases hE
       | succ n39 =>
         rw [Z10_l39] at hE;refine seqR (S BI (nil ?_));refine seqK fun K43 hK43=>?_;refine cE hE (fun hc44 hE=>?_) (fun hc44 hE=>?_)
         ·try dsimp only at hc44
          have hf44:=of_decide_eq_true hc44;refine sk hK43 ?_;clear hK43 K43;refine seqJH (TA 3 (TA 4 (TA 6 (TA 15 (TA 16 (TA 17 (TA 22 (TA 23 (TA 24 KeepsT.nil))))))))) (fun(z:(Sl Z3))=>[]) (fun z=>((H.set tk3_4 (some (.tok 2 z.l.length))).set id3_3 (some (.cells ([Sl.d 2 Z3.c (some tk3_4) z]))))) (fun z=>Z10_j45 s24_40 ((Z10_l39 a0 s17_12 x20 ((Z10_l11 a0 n11)) n39)) z=some r) ?_ ?_
          ·intro K45 hK45;refine block ?_;refine seqR ?_;obtain⟨x48,gx48,hE⟩:=bO hE;refine S (ix Z4.c s24_40 gx48) (S Ld ?_);refine Sl ?_;refine Sf ?_;refine nil ?_;refine freezeA 8 _ rfl (KA 3 (KA 4 (KA 6 (KA 15 (KA 16 (KA 17 (KA 22 (KA 23 (KA 24 Keeps.nil))))))))) ?_;refine seqR (S Fv (S Ld ?_));refine sLen (f:=Z6.c) (s:=x48.FArgs) (TK rfl) rfl rfl rfl rfl fun hL50=>?_;refine S Mv (nil ?_);refine block ?_
           refine loopH (TA 3 (TA 4 (TA 6 (TA 8 (TA 15 (TA 16 (TA 17 (TA 22 (TA 23 (TA 24 (TA 29 (TA 30 KeepsT.nil)))))))))))) (fun(z:Nat×Nat×(Sl Z3))=>[(31,.a (.d (.int .i64 ((z.2.1:Nat):Int))))]) (fun z=>((H.set tk3_4 (some (.tok 2 z.2.2.l.length))).set id3_3 (some (.cells ([Sl.d 2 Z3.c (some tk3_4) z.2.2]))))) (fun z=>z.1) (fun z=>Z10_l51 a0 x20 s24_40 x48 ((Z10_l39 a0 s17_12 x20 ((Z10_l11 a0 n11)) n39)) z.1 z.2.1 z.2.2=some r) ((x48.FArgs.l.length+1),0,y41_id3_3) hE Weak.toA ?_
           rintro ⟨n51,s31_52,y53_id3_3⟩ hE K51 hK51;try dsimp only at hE
           cases n51 with
           | zero=>cases hE
           | succ n51 =>
             rw [Z10_l51] at hE;refine seqR (S BI (nil ?_));refine seqK fun K55 hK55=>?_;refine cE hE (fun hc56 hE=>?_) (fun hc56 hE=>?_)
             ·try dsimp only at hc56
              have hf56:=of_decide_eq_true hc56;refine sk hK55 ?_;clear hK55 K55;refine seqK fun K57 hK57=>?_;refine block ?_;refine seqR ?_;obtain⟨x59,gx59,hE⟩:=bO hE;refine S (ix Z6.c s31_52 gx59) (S Ld ?_);refine Sl ?_;refine Sf ?_;refine nil ?_;refine freezeA 10 _ rfl (KA 3 (KA 4 (KA 6 (KA 8 (KA 15 (KA 16 (KA 17 (KA 22 (KA 23 (KA 24 (KA 29 (KA 30 (KA 31 Keeps.nil))))))))))))) ?_;refine region ?_
              refine S Mv (S Ld (S Fv (S Ld ?_)));obtain⟨x60,gx60,hE⟩:=bO hE;refine s0 (catM rfl rfl gx60) rfl ?_;refine S Fv (S Ld ?_);obtain⟨x61,gx61,hE⟩:=bO hE;refine s0 (catM rfl rfl gx61) rfl ?_;obtain⟨x62,gx62,hE⟩:=bO hE;refine s0 (catM rfl rfl gx62) rfl ?_;refine S Fv (S Ld ?_);obtain⟨x63,gx63,hE⟩:=bO hE;refine s0 (catM rfl rfl gx63) rfl ?_;obtain⟨x64,gx64,hE⟩:=bO hE;refine s0 (catM rfl rfl gx64) rfl ?_
              obtain⟨x65,gx65,hE⟩:=bO hE;refine sH (callH rfl rfl (Z11_walk (gT:=gT) (oT:=oT) gx65 _ hpG hpG hpG (by assumption))) rfl ?_;refine hq ((H.set tk3_4 (some (.tok 2 x65.l.length))).set id3_3 (some (.cells ([Sl.d 2 Z3.c (some tk3_4) x65])))) ?_;refine nil ?_;refine hK57 _ ?_;clear hK57 K57;refine region ?_;refine SI ?_;refine S Mv (nil ?_);exact hK51 _ (n51,(s31_52+1),x65) Weak.toA hE (Nat.lt_succ_self _)
             refine AWp.exit ?_;exact hK45 _ y53_id3_3 Weak.toA hE
          rintro y46_id3_3 hE;try dsimp only at hE
          unfold Z10_j45 at hE;refine region ?_;refine SI ?_;refine S Mv (nil ?_);exact hK39 _ (n39,(s24_40+1),y46_id3_3) Weak.toA hE (Nat.lt_succ_self _)
         refine AWp.exit ?_;exact hK21 _ y41_id3_3 Weak.toA hE
      rintro y22_id3_3 hE;try dsimp only at hE
      unfold Z10_j21 at hE;refine seqR (S Fv (S Ld ?_));refine sLen (f:=Z6.c) (s:=x20.FInputs) (TK rfl) rfl rfl rfl rfl fun hL24=>?_;refine S Mv (nil ?_);refine block ?_;refine loopH (TA 3 (TA 4 (TA 6 (TA 15 (TA 16 (TA 17 (TA 52 (TA 53 KeepsT.nil)))))))) (fun(z:Nat×Nat×(Sl Z3))=>[(54,.a (.d (.int .i64 ((z.2.1:Nat):Int))))]) (fun z=>((H.set tk3_4 (some (.tok 2 z.2.2.l.length))).set id3_3 (some (.cells ([Sl.d 2 Z3.c (some tk3_4) z.2.2]))))) (fun z=>z.1) (fun z=>Z10_l25 a0 s17_12 x20 ((Z10_l11 a0 n11)) z.1 z.2.1 z.2.2=some r) ((x20.FInputs.l.length+1),0,y22_id3_3) hE Weak.toA ?_
      rintro ⟨n25,s54_26,y27_id3_3⟩ hE K25 hK25;try dsimp only at hE
      cases n25 with
      | zero=>cases hE
      | succ n25 =>
        rw [Z10_l25] at hE;refine seqR (S BI (nil ?_));refine seqK fun K29 hK29=>?_;refine cE hE (fun hc30 hE=>?_) (fun hc30 hE=>?_)
        ·try dsimp only at hc30
         have hf30:=of_decide_eq_true hc30;refine sk hK29 ?_;clear hK29 K29;refine seqK fun K31 hK31=>?_;refine block ?_;refine seqR ?_;obtain⟨x33,gx33,hE⟩:=bO hE;refine S (ix Z6.c s54_26 gx33) (S Ld ?_);refine Sl ?_;refine Sf ?_;refine nil ?_;refine freezeA 12 _ rfl (KA 3 (KA 4 (KA 6 (KA 15 (KA 16 (KA 17 (KA 52 (KA 53 (KA 54 Keeps.nil))))))))) ?_;refine region ?_;refine S Mv (S Ld (S Fv (S Ld ?_)))
         obtain⟨x34,gx34,hE⟩:=bO hE;refine s0 (catM rfl rfl gx34) rfl ?_;refine S Fv (S Ld ?_);obtain⟨x35,gx35,hE⟩:=bO hE;refine s0 (catM rfl rfl gx35) rfl ?_;obtain⟨x36,gx36,hE⟩:=bO hE;refine sH (callH rfl rfl (Z11_walk (gT:=gT) (oT:=oT) gx36 _ hpG hpG hpG (by assumption))) rfl ?_;refine hq ((H.set tk3_4 (some (.tok 2 x36.l.length))).set id3_3 (some (.cells ([Sl.d 2 Z3.c (some tk3_4) x36])))) ?_;refine nil ?_
         refine hK31 _ ?_;clear hK31 K31;refine region ?_;refine SI ?_;refine S Mv (nil ?_);exact hK25 _ (n25,(s54_26+1),x36) Weak.toA hE (Nat.lt_succ_self _)
        refine AWp.exit ?_;exact hK17 _ y27_id3_3 Weak.toA hE
     rintro y18_id3_3 hE;try dsimp only at hE
     unfold Z10_j17 at hE;refine region ?_;refine SI ?_;refine S Mv (nil ?_);exact hK11 _ (n11,(s17_12+1),y18_id3_3) Weak.toA hE (Nat.lt_succ_self _)
    refine AWp.exit ?_;exact hK6 _ y13_id3_3 Weak.toA hE
 rintro y7_id3_3 hE;try dsimp only at hE
 unfold Z10_j6 at hE;refine seqR ?_;refine s0 (loadP (TK rfl) rfl rfl hpG rfl) rfl ?_;refine S As (nil ?_);refine AWp.dropTok 2 rfl ?_;refine AWp.ret ?_;repeat (first|refine xBlock_ret ?_|refine xThen_ret ?_)
 obtain rfl:=Option.some.inj hE;refine retQ.retF H rfl ⟨rfl,rfl⟩ ?_;intro id_ o_ he_;have e_tk3_4:id_≠tk3_4:=fun e_=>by subst e_; simp_all [Heap.set]
 have e_id3_3:id_≠id3_3:=fun e_=>by subst e_; simp_all [Heap.set]
 rw [<- he_];simp only [Heap.set] at he_ ⊢
 (repeat' split)<;>simp_all
def Z36 (a0:TDoc) (a1:TRef) (a2:Z9):Option Bool:=(Z65 a0).bind fun x4=>guardO (!x4) (Z56 a0) false fun x5=>guardO (!(x4||(!x5))) (Z52 a1) false fun x6=>guardO (!((x4||(!x5))||(!x6))) (Z45 a2) (0:Int) fun x7=>guardO (!(((x4||(!x5))||(!x6))||(decide ((100:Int)<x7)))) (Z44 a2) false fun x8=>guardO (!((((x4||(!x5))||(!x6))||(decide ((100:Int)<x7)))||(!x8))) (Z37 a2) false fun x9=>bif (((((x4||(!x5))||(!x6))||(decide ((100:Int)<x7)))||(!x8))||(!x9)) then((Z38 ).bind fun x12=>some x12) else((Z66 a0 false).bind fun x15=>guardO (!(decide ((0:Int)<((x15.l.length:Nat):Int)))) (Z10 a0) (Sl.nil:Sl Z3) fun x17=>guardO (!((decide ((0:Int)<((x15.l.length:Nat):Int)))||(decide ((0:Int)<((x17.l.length:Nat):Int))))) (Z71 a0 a1.FName) false fun x18=>bif ((((decide ((0:Int)<((x15.l.length:Nat):Int)))||(decide ((0:Int)<((x17.l.length:Nat):Int))))||(!x18))||(decide ((64:Int)<=((a0.FDefs.l.length:Nat):Int)))) then((Z38 ).bind fun x21=>some x21) else((Z69 a0 ([81,117,101,114,121]:Bs)).bind fun x23=>bif x23.2 then((Z38 ).bind fun x28=>some x28) else((appK 144 (⟨false,[]⟩:Sl TDef) a0.FDefs).bind fun x30=>(Z50 ([73,110,116]:Bs)).bind fun x31=>(appC 144 x30 (⟨false,[(TDef.mk (1:Int) ([81,117,101,114,121]:Bs) (Sl.nil:Sl Bs) (Sl.nil:Sl TDir) (⟨false,[(Z4.mk ([102]:Bs) (⟨false,[(Z6.mk ([120]:Bs) a1 false Z9.zero (Sl.nil:Sl TDir))]⟩:Sl Z6) x31 (Sl.nil:Sl TDir))]⟩:Sl Z4) (Sl.nil:Sl Z7) (Sl.nil:Sl Z6))]⟩:Sl TDef)).bind fun x32=>(Z21 (TDoc.mk x32) (Z8.mk (⟨false,[(TOp.mk (1:Int) ([]:Bs) (Sl.nil:Sl TVar) (⟨false,[(TSel.mk (1:Int) ([]:Bs) ([102]:Bs) ([]:Bs) (⟨false,[(TArg.mk ([120]:Bs) a2)]⟩:Sl TArg) (Sl.nil:Sl TDir) true ([]))]⟩:Sl TSel))]⟩:Sl TOp) (Sl.nil:Sl Z5))).bind fun x35=>(Z12 (TDoc.mk x32) a1 a2 (Z9.mk (0:Int) (0:Int) ([]:Bs) true ([]) (Sl.nil:Sl Bs))).bind fun x37=>bif ((decide (x37.2=(4:Int)))||(decide (x37.2=(5:Int)))) then((Z38 ).bind fun x42=>some x42) else(bif (decide (x37.2=(0:Int))) then(guardO ((decide (((x35.l.length:Nat):Int)=(0:Int)))) (Z38 ) false fun x48=>some ((decide (((x35.l.length:Nat):Int)=(0:Int)))&&x48)) else(guardO ((decide (((x35.l.length:Nat):Int)=(1:Int)))) (x35.l[0]?) Z3.zero fun x51=>guardO (((decide (((x35.l.length:Nat):Int)=(1:Int)))&&(decide (x51.FErr=(23:Int))))) (x35.l[0]?) Z3.zero fun x52=>guardO ((((decide (((x35.l.length:Nat):Int)=(1:Int)))&&(decide (x51.FErr=(23:Int))))&&((x52.FAt==([47,102]:Bs))))) (Z38 ) false fun x53=>some ((((decide (((x35.l.length:Nat):Int)=(1:Int)))&&(decide (x51.FErr=(23:Int))))&&((x52.FAt==([47,102]:Bs))))&&x53))))))
theorem Z36_walk {a0:TDoc}{a1:TRef}{a2:Z9}{oT:Ab.Obj}{gT:Nat}{r:Bool}(hE:Z36 a0 a1 a2=some r) (H:Heap) (hgT:H gT=some oT) (hoT:IsTab Tryz.prog oT):ACalls Tryz.prog 3 [.agg (TDoc.c a0),.agg (TRef.c a1),.agg (Z9.c a2)] H fun v h'=>v=.a (.d (.bool r))/\h'=H:=by
 unfold Z36 at hE;refine ACalls.oW 140 [.tmp 6] Tryz.call3 Tryz.func3 ?_;refine AWp.tok 7 fun tk1 htk1=>?_;have ne_tk1_gT:tk1≠gT:=fun e_=>by subst e_; simp_all
 refine seqR ?_;refine sL (boxL rfl (by repeat (first|exact Snoc.nil|apply Snoc.cons))) rfl ?_;refine S BX (S BX (S As (nil ?_)));refine seqK fun K2 hK2=>?_;refine seqR (S LL ?_);obtain⟨x4,gx4,hE⟩:=bO hE;refine Sc rfl rfl (Z65_walk gx4) ?_;refine S Mv (G0 LL ?_);obtain⟨x5,gx5,hE⟩:=gO hE;refine Gc1 16 rfl rfl rfl rfl rfl (fun hC=>Z56_walk (gx5 hC)) ?_;refine G1 17 rfl NB ?_;refine S PO (S Mv (G0 Ld ?_))
 obtain⟨x6,gx6,hE⟩:=gO hE;refine Gc1 21 rfl rfl rfl rfl rfl (fun hC=>Z52_walk (gx6 hC)) ?_;refine G1 22 rfl NB ?_;refine S PO (S Mv (G0 Ld ?_));obtain⟨x7,gx7,hE⟩:=gO hE;refine Gc1 26 rfl rfl rfl rfl rfl (fun hC=>Z45_walk (gx7 hC)) ?_;refine G1 27 rfl BI ?_;refine S PO (S Mv (G0 Ld ?_));obtain⟨x8,gx8,hE⟩:=gO hE;refine Gc1 31 rfl rfl rfl rfl rfl (fun hC=>Z44_walk (gx8 hC)) ?_;refine G1 32 rfl NB ?_;refine S PO (S Mv (G0 Ld ?_))
 obtain⟨x9,gx9,hE⟩:=gO hE;refine Gc1 36 rfl rfl rfl rfl rfl (fun hC=>Z37_walk (gx9 hC)) ?_;refine G1 37 rfl NB ?_;refine S PO (nil ?_);refine cE hE (fun hc10 hE=>?_) (fun hc10 hE=>?_)
 ·refine seqR ?_;obtain⟨x12,gx12,hE⟩:=bO hE;refine Sc rfl rfl (Z38_walk gx12) ?_;refine S As (nil ?_);refine AWp.ret ?_;repeat (first|refine xBlock_ret ?_|refine xThen_ret ?_)
  obtain rfl:=Option.some.inj hE;refine retQ.retF H rfl ⟨rfl,rfl⟩ ?_
  first|exact Heap.sub_set htk1|(simp only [Heap.set_set]; exact Heap.sub_set htk1)
 refine sk hK2 ?_;clear hK2 K2;refine seqK fun K13 hK13=>?_;refine seqR (S LL ?_);obtain⟨x15,gx15,hE⟩:=bO hE;refine Sc rfl rfl (Z66_walk gx15) ?_;refine sLen (f:=Z3.c) (s:=x15) (TK rfl) rfl rfl rfl rfl fun hL16=>?_;refine S BI (S Mv (G0 LL ?_));obtain⟨x17,gx17,hE⟩:=gO hE;refine gC rfl rfl (fun hC=>ungdA (k:=46) rfl (callR rfl rfl (Z10_walk (gT:=gT) (oT:=oT) (gx17 hC) _ hpG (by assumption)))) rfl ?_
 refine gC rfl rfl (fun hC=>ungdA (k:=47) rfl (lenM' (f:=Z3.c) (s:=x17) (TK rfl) rfl rfl rfl)) rfl ?_;refine G1 48 rfl BI ?_;refine S PO (S Mv (G0 LL (G0 Fv ?_)));refine G1 53 rfl Ld ?_;obtain⟨x18,gx18,hE⟩:=gO hE;refine Gc2 52 54 rfl rfl rfl rfl rfl rfl (fun hC=>Z71_walk (gx18 hC)) ?_;refine G1 55 rfl NB ?_;refine S PO (S Mv (G0 FL ?_));refine gC rfl rfl (fun hC=>ungdLA (k:=59) rfl (loadL (TK rfl) rfl rfl rfl rfl)) rfl ?_
 refine gC rfl rfl (fun hC=>ungdA (k:=60) rfl (lenM' (f:=TDef.c) (s:=a0.FDefs) (TK rfl) rfl rfl rfl)) rfl ?_;refine G1 61 rfl BI ?_;refine S PO (nil ?_);refine cE hE (fun hc19 hE=>?_) (fun hc19 hE=>?_)
 ·refine seqR ?_;obtain⟨x21,gx21,hE⟩:=bO hE;refine Sc rfl rfl (Z38_walk gx21) ?_;refine S As (nil ?_);refine AWp.ret ?_;repeat (first|refine xBlock_ret ?_|refine xThen_ret ?_)
  obtain rfl:=Option.some.inj hE;refine retQ.retF H rfl ⟨rfl,rfl⟩ ?_
  first|exact Heap.sub_set htk1|(simp only [Heap.set_set]; exact Heap.sub_set htk1)
 refine sk hK13 ?_;clear hK13 K13;refine seqR (S LL ?_);obtain⟨x23,gx23,hE⟩:=bO hE;refine Sc rfl rfl (Z69_walk gx23) ?_;refine S Mv (S EX (S EX ?_));refine Sl ?_;refine Sf ?_;refine S As (nil ?_);refine freezeA 7 _ rfl (KA 3 (KA 4 (KA 5 (KA 8 Keeps.nil)))) ?_;refine seqK fun K24 hK24=>?_;refine seqR (S Mv (nil ?_));refine cE hE (fun hc26 hE=>?_) (fun hc26 hE=>?_)
 ·refine seqR ?_;obtain⟨x28,gx28,hE⟩:=bO hE;refine Sc rfl rfl (Z38_walk gx28) ?_;refine S As (nil ?_);refine AWp.ret ?_;repeat (first|refine xBlock_ret ?_|refine xThen_ret ?_)
  obtain rfl:=Option.some.inj hE;refine retQ.retF H rfl ⟨rfl,rfl⟩ ?_
  first|exact Heap.sub_set htk1|(simp only [Heap.set_set]; exact Heap.sub_set htk1)
 refine sk hK24 ?_;clear hK24 K24;refine AWp.seqD ?_;refine DOps.s0 (buildSliceF (TK rfl) rfl (TK rfl) rfl rfl rfl rfl rfl rfl) rfl ?_;refine Sd FL (Sd LL ?_);obtain⟨x30,gx30,hE⟩:=bO hE;refine DOps.sH (appKM (f:=TDef.c) (TK rfl) rfl (TK rfl) (TK rfl) ⟨_,rfl⟩ rfl rfl rfl rfl rfl rfl rfl hpG rfl gx30) rfl ?_;refine DOps.Dh (H.set tk1 (some (.tok 7 x30.l.length))) ?_;obtain⟨x31,gx31,hE⟩:=bO hE;refine Scd rfl rfl (Z50_walk gx31) ?_
 refine Sd Ld (Sd BU (Sd BV (Sd BU (Sd BV (Sd BU (Sd BV ?_))))));obtain⟨x32,gx32,hE⟩:=bO hE;refine DOps.sH (untok (appM (f:=TDef.c) (TK rfl) rfl (TK rfl) (TK rfl) ⟨_,rfl⟩ rfl rfl (by decide) rfl rfl rfl rfl hpG rfl gx32)) rfl ?_;refine DOps.Dh (H.set tk1 (some (.tok 7 x32.l.length))) ?_;refine Sd FL ?_;refine DOps.sLn (storeL1 (TK rfl) rfl rfl rfl rfl (by repeat (first|exact SetAt.zero|apply SetAt.succ)) (by repeat (first|exact SetAt.zero|apply SetAt.succ))) ?_
 refine DOps.nil (by decide +kernel) ?_;refine seqR (S Ld (S BU (S BV (S BU (S BV (S BU (S BV (S BU ?_))))))));refine Sl ?_;refine Sf ?_;refine nil ?_;refine freezeA 9 _ rfl (KA 3 (KA 4 (KA 5 Keeps.nil))) ?_;refine seqR (S LL (S Ld ?_));obtain⟨x35,gx35,hE⟩:=bO hE;refine Sc rfl rfl (Z21_walk gx35) ?_;refine S As (nil ?_);refine seqR (S LL (S Ld (S Ld (S BU ?_))));obtain⟨x37,gx37,hE⟩:=bO hE;refine s0 (callR rfl rfl (Z12_walk (gT:=gT) (oT:=oT) gx37 _ hpG (by assumption))) rfl ?_
 refine S Mv (S EX (S EX ?_));refine Sl ?_;refine Sf ?_;refine S As (nil ?_);refine freezeA 11 _ rfl (KA 10 (KA 12 Keeps.nil)) ?_;refine seqK fun K38 hK38=>?_;refine seqR (S Mv (S BI (S Mv (G0 Mv ?_))));refine G1 108 rfl BI ?_;refine S PO (nil ?_);refine cE hE (fun hc40 hE=>?_) (fun hc40 hE=>?_)
 ·refine seqR ?_;obtain⟨x42,gx42,hE⟩:=bO hE;refine Sc rfl rfl (Z38_walk gx42) ?_;refine S As (nil ?_);refine AWp.ret ?_;repeat (first|refine xBlock_ret ?_|refine xThen_ret ?_)
  obtain rfl:=Option.some.inj hE;refine retQ.retF H rfl ⟨rfl,rfl⟩ ?_
  first|exact Heap.sub_set htk1|(simp only [Heap.set_set]; exact Heap.sub_set htk1)
 refine sk hK38 ?_;clear hK38 K38;refine seqK fun K43 hK43=>?_;refine seqR (S Mv (S BI (nil ?_)));refine cE hE (fun hc45 hE=>?_) (fun hc45 hE=>?_)
 ·refine seqR (S Mv ?_);refine sLen (f:=Z3.c) (s:=x35) (TK rfl) rfl rfl rfl rfl fun hL47=>?_;refine S BI (S Mv ?_);obtain⟨x48,gx48,hE⟩:=gO hE;refine Gc0 rfl rfl rfl rfl (fun hC=>Z38_walk (gx48 hC)) ?_;refine S PA (S As (nil ?_));refine AWp.ret ?_;repeat (first|refine xBlock_ret ?_|refine xThen_ret ?_)
  obtain rfl:=Option.some.inj hE;refine retQ.retF H rfl ⟨rfl,rfl⟩ ?_
  first|exact Heap.sub_set htk1|(simp only [Heap.set_set]; exact Heap.sub_set htk1)
 refine sk hK43 ?_;clear hK43 K43;refine seqR (S Mv ?_);refine sLen (f:=Z3.c) (s:=x35) (TK rfl) rfl rfl rfl rfl fun hL50=>?_;refine S BI (S Mv (G0 Mv ?_));obtain⟨x51,gx51,hE⟩:=gO hE;refine gC rfl rfl (fun hC=>ungdA (k:=124) rfl (idxMn (f:=Z3.c) (n:=0) (TK rfl) rfl (TK rfl) rfl rfl rfl (gx51 hC))) rfl ?_;refine G1 125 rfl Fv ?_;refine G1 126 rfl Ld ?_;refine G1 127 rfl BI ?_;refine S PA (S Mv (G0 Mv ?_))
 obtain⟨x52,gx52,hE⟩:=gO hE;refine gC rfl rfl (fun hC=>ungdA (k:=131) rfl (idxMn (f:=Z3.c) (n:=0) (TK rfl) rfl (TK rfl) rfl rfl rfl (gx52 hC))) rfl ?_;refine G1 132 rfl Fv ?_;refine G1 133 rfl Ld ?_;refine G1 134 rfl BS ?_;refine S PA (S Mv ?_);obtain⟨x53,gx53,hE⟩:=gO hE;refine Gc0 rfl rfl rfl rfl (fun hC=>Z38_walk (gx53 hC)) ?_;refine S PA (S As (nil ?_));refine AWp.ret ?_;repeat (first|refine xBlock_ret ?_|refine xThen_ret ?_)
 obtain rfl:=Option.some.inj hE;refine retQ.retF H rfl ⟨rfl,rfl⟩ ?_
 first|exact Heap.sub_set htk1|(simp only [Heap.set_set]; exact Heap.sub_set htk1)
end Go.Proofs
