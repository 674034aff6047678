import Derived.Test.YtbghdiaepdaaeaaGreatDoorV1
set_option maxRecDepth 100000
set_option maxHeartbeats 2000000
set_option linter.unusedVariables false
set_option linter.unusedSimpArgs false
namespace Go.Proofs
open Go Go.Ab
open AOps Cert AWp Keeps KeepsT
variable {lou:Lou}
def Z81 (a0:TDoc) (a1:Bs):Option Bool:=(Z82 a0 a1).bind fun x3=>guardO (!x3) (Z85 a0 a1) (0:Int) fun x4=>some (x3||(decide (x4=(5:Int))))
theorem Z81_walk {a0:TDoc}{a1:Bs}{r:Bool}(hE:Z81 a0 a1=some r) (H:Heap) :AC Tryz.prog 238 [.agg (TDoc.c a0),.d (.str a1)] H fun v h'=>v=.a (.d (.bool r))/\h'=H:=by
 unfold Z81 at hE;refine AC.oW 14 [.tmp 4] Tryz.call238 Tryz.func238 ?_;refine seqR (S BX (S As (nil ?_)));refine seqR (S Ld (S Mv ?_));obtain⟨x3,gx3,hE⟩:=bO hE;refine Sc rfl rfl (Z82_walk gx3) ?_;refine S Mv (G0 Ld (G0 Mv ?_));obtain⟨x4,gx4,hE⟩:=gO hE;refine Gc2 9 10 rfl rfl rfl rfl rfl rfl (fun hC=>Z85_walk (gx4 hC)) ?_;refine G1 11 rfl BI ?_;refine S PO (S As (nil ?_));exact rt hE
def Z21 (a0:Z0) (a1:Int):Option (Int×Z0):=bif (decide ((24:Int)<a1)) then(some ((5:Int),a0)) else((addC a0.Fnodes (1:Int)).bind fun x7=>bif (decide ((4096:Int)<x7)) then(some ((4:Int),(Z0.mk a0.Fd a0.Fvars a0.Fliteral x7))) else(some ((0:Int),(Z0.mk a0.Fd a0.Fvars a0.Fliteral x7))))
theorem Z21_walk {a0:Z0}{a1:Int}{c0:Nat}{r:Int×Z0}(hE:Z21 a0 a1=some r) (H:Heap) (hc0:H c0=some (.cells (Z0.c a0))):AC Tryz.prog 241 [.d (.ptr c0 0),.d (.int .i64 a1)] H fun v h'=>v=.a (.d (.int .i64 r.1))/\h'=(H.set c0 (some (.cells (Z0.c r.2)))):=by
 unfold Z21 at hE;refine AC.oW 19 [.tmp 4] Tryz.call241 Tryz.func241 ?_;refine AWp.heqA (h':=(H.set c0 (some (.cells (Z0.c a0))))) (by funext n_; simp only [Heap.set]; (repeat' split)<;>simp_all) ?_;refine seqR (S As (nil ?_));refine seqK fun K2 hK2=>?_;refine seqR (S Mv (S BI (nil ?_)));refine cE hE (fun hc4 hE=>?_) (fun hc4 hE=>?_)
 ·refine seqR (S As (nil ?_));exact rt hE
 refine sk hK2 ?_;clear hK2 K2;refine seqR (S Mv (S NP ?_));refine s0 (fieldP (TK rfl) rfl rfl (TK rfl) rfl rfl) rfl ?_;refine s0 (loadP (TK rfl) rfl rfl hpG rfl) rfl ?_;obtain⟨x7,gx7,hE⟩:=bO hE;refine s0 (addM rfl rfl gx7) rfl ?_;refine S NP ?_;refine s0 (fieldP (TK rfl) rfl rfl (TK rfl) rfl rfl) rfl ?_;refine sHn (storeP1 (TK rfl) rfl rfl hpG rfl (by repeat (first|exact SetAt.zero|apply SetAt.succ))) rfl rfl ?_
 refine hq (H.set c0 (some (.cells (Z0.c (Z0.mk a0.Fd a0.Fvars a0.Fliteral x7))))) ?_;refine nil ?_;refine seqK fun K8 hK8=>?_;refine seqR (S Mv (S NP ?_));refine s0 (fieldP (TK rfl) rfl rfl (TK rfl) rfl rfl) rfl ?_;refine s0 (loadP (TK rfl) rfl rfl hpG rfl) rfl ?_;refine S BI (nil ?_);refine cE hE (fun hc10 hE=>?_) (fun hc10 hE=>?_)
 ·refine seqR (S As (nil ?_));exact rt hE
 refine sk hK8 ?_;clear hK8 K8;refine seqR (S As (nil ?_));exact rt hE
def Z27_j8  (y9_c0:Z0):Option (Int×Z0):=some ((0:Int),y9_c0)
def Z27_l13 (a1:Z11) (a2:Int) (k_rec_240:Z0->Z11->Int->Option (Int×Z0)):Nat->Nat->Z0->Option (Int×Z0)
 | 0,_,_=>none
 | n13+1,s20_14,y15_c0=>bif (decide (((s20_14:Nat):Int)<((a1.FItems.l.length:Nat):Int))) then((a1.FItems.l[s20_14]?).bind fun x21=>(addC a2 (1:Int)).bind fun x23=>(k_rec_240 y15_c0 x21 x23).bind fun x24=>bif (!decide (x24.1=(0:Int))) then(some (x24.1,x24.2)) else((Z27_l13 a1 a2 k_rec_240 n13) (s20_14+1) x24.2)) else(Z27_j8   y15_c0)
def Z27_n:Nat->Z0->Z11->Int->Option (Int×Z0)
 | 0,_,_,_=>none
 | n+1,a0,a1,a2=>(Z21 a0 a2).bind fun x4=>bif (!decide (x4.1=(0:Int))) then(some (x4.1,x4.2)) else(Z27_l13 a1 a2 (Z27_n n) (a1.FItems.l.length+1) 0 x4.2)
theorem Z27_step (n:Nat) (ih_240:∀{a0:Z0}{a1:Z11}{a2:Int}{c0:Nat}{r:Int×Z0},Z27_n n a0 a1 a2=some r->∀(H:Heap) (hc0:H c0=some (.cells (Z0.c a0))),AC Tryz.prog 240 [.d (.ptr c0 0),.agg (Z11.c a1),.d (.int .i64 a2)] H fun v h'=>v=.a (.d (.int .i64 r.1))/\h'=(H.set c0 (some (.cells (Z0.c r.2))))):∀{a0:Z0}{a1:Z11}{a2:Int}{c0:Nat}{r:Int×Z0},Z27_n (n+1) a0 a1 a2=some r->∀(H:Heap) (hc0:H c0=some (.cells (Z0.c a0))),AC Tryz.prog 240 [.d (.ptr c0 0),.agg (Z11.c a1),.d (.int .i64 a2)] H fun v h'=>v=.a (.d (.int .i64 r.1))/\h'=(H.set c0 (some (.cells (Z0.c r.2)))):=by
 intro a0 a1 a2  c0 r hE H hc0;rw [Z27_n] at hE;refine AC.oW 33 [.tmp 6] Tryz.call240 Tryz.func240 ?_;refine AWp.heqA (h':=(H.set c0 (some (.cells (Z0.c a0))))) (by funext n_; simp only [Heap.set]; (repeat' split)<;>simp_all) ?_;refine seqR (S BX (S As (nil ?_)));refine seqK fun K2 hK2=>?_;refine seqR (S Mv (S Mv ?_));obtain⟨x4,gx4,hE⟩:=bO hE;refine sH (callH rfl rfl (Z21_walk gx4 _ hpG)) rfl ?_
 refine hq (H.set c0 (some (.cells (Z0.c x4.2)))) ?_;refine S As (nil ?_);refine seqR (S Mv (S BI (nil ?_)));refine cE hE (fun hc6 hE=>?_) (fun hc6 hE=>?_)
 ·refine seqR (S Mv (S As (nil ?_)));exact rt hE
 refine sk hK2 ?_;clear hK2 K2;refine seqJH kN (fun(z:Z0)=>[]) (fun z=>(H.set c0 (some (.cells (Z0.c z))))) (fun z=>Z27_j8 z=some r) ?_ ?_
 ·intro K8 hK8;refine seqR (S Fv ?_);refine s0 (loadV (TK rfl) rfl rfl (congrArg (fun x=>some (A.d x)) (Z11.FItemsD_eq _))) rfl ?_;refine sLen (f:=Z11.c) (s:=a1.FItems) (TK rfl) rfl rfl rfl rfl fun hL12=>?_;refine S Mv (nil ?_);refine block ?_;refine loopH (TA 0 (TA 2 (TA 18 (TA 19 kN)))) (fun(z:Nat×Nat×Z0)=>[(20,.a (.d (.int .i64 ((z.2.1:Nat):Int))))]) (fun z=>(H.set c0 (some (.cells (Z0.c z.2.2))))) (fun z=>z.1) (fun z=>Z27_l13 a1 a2 (Z27_n n) z.1 z.2.1 z.2.2=some r) ((a1.FItems.l.length+1),0,x4.2) hE wA ?_
  rintro ⟨n13,s20_14,y15_c0⟩ hE K13 hK13;try dsimp only at hE
  cases n13 with
  | zero=>cases hE
  | succ n13 =>
    rw [Z27_l13] at hE;refine seqR (S BI (nil ?_));refine seqK fun K17 hK17=>?_;refine cE hE (fun hc18 hE=>?_) (fun hc18 hE=>?_)
    ·try dsimp only at hc18
     have hf18:=oD hc18;refine sk hK17 ?_;clear hK17 K17;refine seqK fun K19 hK19=>?_;refine block ?_;refine seqR ?_;obtain⟨x21,gx21,hE⟩:=bO hE;refine S (ix Z11.c s20_14 gx21) (S Ld ?_);refine Sl ?_;refine Sf ?_;refine nil ?_;refine freezeA 9 _ rfl (KA 0 (KA 2 (KA 18 (KA 19 (KA 20 Keeps.nil))))) ?_;refine seqR (S Mv (S Ld (S Mv ?_)));obtain⟨x23,gx23,hE⟩:=bO hE;refine s0 (addM rfl rfl gx23) rfl ?_
     obtain⟨x24,gx24,hE⟩:=bO hE;refine sH (callH rfl rfl (ih_240 gx24 _ hpG)) rfl ?_;refine hq (H.set c0 (some (.cells (Z0.c x24.2)))) ?_;refine S As (nil ?_);refine seqR (S Mv (S BI (nil ?_)));refine cE hE (fun hc26 hE=>?_) (fun hc26 hE=>?_)
     ·refine seqR (S Mv (S As (nil ?_)));exact rt hE
     refine sk hK19 ?_;clear hK19 K19;refine region ?_;refine SI ?_;refine S Mv (nil ?_);exact hK13 _ (n13,(s20_14+1),x24.2) wA hE (nS _)
    refine AWp.exit ?_;exact hK8 _ y15_c0 wA hE
 rintro y9_c0 hE;try dsimp only at hE
 unfold Z27_j8 at hE;refine seqR (S As (nil ?_));exact rt hE
theorem Z27_all:∀(n:Nat),(∀{a0:Z0}{a1:Z11}{a2:Int}{c0:Nat}{r:Int×Z0},Z27_n n a0 a1 a2=some r->∀(H:Heap) (hc0:H c0=some (.cells (Z0.c a0))),AC Tryz.prog 240 [.d (.ptr c0 0),.agg (Z11.c a1),.d (.int .i64 a2)] H fun v h'=>v=.a (.d (.int .i64 r.1))/\h'=(H.set c0 (some (.cells (Z0.c r.2)))))
 | 0=>fun hE=>by first|cases hE|(rw [Z27_n] at hE; cases hE)
 | n+1=>Z27_step n (Z27_all n)
def Z27 (a0:Z0) (a1:Z11) (a2:Int):Option (Int×Z0):=Z27_n F0 a0 a1 a2
theorem Z27_walk {a0:Z0}{a1:Z11}{a2:Int}{c0:Nat}{r:Int×Z0}(hE:Z27 a0 a1 a2=some r) (H:Heap) (hc0:H c0=some (.cells (Z0.c a0))):AC Tryz.prog 240 [.d (.ptr c0 0),.agg (Z11.c a1),.d (.int .i64 a2)] H fun v h'=>v=.a (.d (.int .i64 r.1))/\h'=(H.set c0 (some (.cells (Z0.c r.2)))):=(Z27_all F0) hE H hc0
def Z117 (a0:TRef):Option (TRef×Bool):=(Z118 a0).bind fun x4=>bif (!x4) then(some ((TRef.mk ([]:Bs) (Sl.nil:Sl Int)),false)) else((Z122 a0).bind fun x8=>(partC x8.FWraps (some (1:Int)) none).bind fun x10=>some ((TRef.mk x8.FName x10),true))
theorem Z117_walk {a0:TRef}{r:TRef×Bool}(hE:Z117 a0=some r) (H:Heap) :AC Tryz.prog 242 [.agg (TRef.c a0)] H fun v h'=>v=.tup [.agg (TRef.c r.1),.d (.bool r.2)]/\h'=H:=by
 unfold Z117 at hE;refine AC.oW 15 [.cell 2 50,.tmp 3] Tryz.call242 Tryz.func242 ?_;refine seqR ?_;refine sL (boxL rfl (by repeat (first|exact Snoc.nil|apply Snoc.cons))) rfl ?_;refine Sl ?_;refine S As (nil ?_);refine seqK fun K2 hK2=>?_;refine seqR (S LL ?_);obtain⟨x4,gx4,hE⟩:=bO hE;refine Sc rfl rfl (Z118_walk gx4) ?_;refine S NB (nil ?_);refine cE hE (fun hc5 hE=>?_) (fun hc5 hE=>?_)
 ·refine seqR (S BU ?_);refine Sf ?_;refine S As (nil ?_);exact rt hE
 refine sk hK2 ?_;clear hK2 K2;refine seqR (S LL ?_);obtain⟨x8,gx8,hE⟩:=bO hE;refine Sc rfl rfl (Z122_walk gx8) ?_;refine Sf ?_;refine nil ?_;refine seqR (S FL (S LL ?_));obtain⟨x10,gx10,hE⟩:=bO hE;refine s0 (partM (f:=(intE .i64)) (l:=(some (1:Int))) (r:=none) (TK rfl) rfl (TK rfl) rfl rfl rfl trivial gx10) rfl ?_;refine S FL ?_;refine Sf ?_;refine nil ?_;refine seqR (S LL ?_);refine Sf ?_;refine S As (nil ?_)
 exact rt hE
def Z24 (a0:Z0) (a1:Z11):Option Bool:=bif ((!decide (a1.FKind=(7:Int)))||(!a0.Fliteral)) then(some false) else((Z127 a0.Fvars a1.FText).bind fun x7=>some (!x7.2))
theorem Z24_walk {a0:Z0}{a1:Z11}{c0:Nat}{r:Bool}(hE:Z24 a0 a1=some r) (H:Heap) (hc0:H c0=some (.cells (Z0.c a0))):AC Tryz.prog 209 [.d (.ptr c0 0),.agg (Z11.c a1)] H fun v h'=>v=.a (.d (.bool r))/\h'=H:=by
 unfold Z24 at hE;refine AC.oW 29 [.tmp 4] Tryz.call209 Tryz.func209 ?_;refine seqR (S BX (S As (nil ?_)));refine seqK fun K2 hK2=>?_;refine seqR (S Fv (S Ld (S BI (S Mv (G0 Mv ?_)))));refine G1 11 rfl NP ?_;refine gC rfl rfl (fun hC=>ungdA (k:=12) rfl (fieldP (TK rfl) rfl rfl (TK rfl) rfl rfl)) rfl ?_;refine gC rfl rfl (fun hC=>ungdA (k:=13) rfl (loadP (TK rfl) rfl rfl hpG rfl)) rfl ?_;refine G1 14 rfl NB ?_
 refine S PO (nil ?_);refine cE hE (fun hc4 hE=>?_) (fun hc4 hE=>?_)
 ·refine seqR (S As (nil ?_));exact rt hE
 refine sk hK2 ?_;clear hK2 K2;refine AWp.seqD (Sd Mv (Sd NP ?_));refine DOps.s0 (fieldP (TK rfl) rfl rfl (TK rfl) rfl rfl) rfl ?_;refine DOps.s0 (loadP (TK rfl) rfl rfl hpG rfl) rfl ?_;refine Sd Fv (Sd Ld ?_);obtain⟨x7,gx7,hE⟩:=bO hE;refine Scd rfl rfl (Z127_walk gx7) ?_;refine Sd Mv (Sd EX (Sd EX ?_));refine DOps.sB (TK rfl) rfl rfl ?_ (by repeat (first|exact Snoc.nil|apply Snoc.cons));refine DOps.sLn (storeLFA (TK rfl) rfl rfl rfl rfl rfl) ?_
 refine Sd As ?_;refine DOps.nil (by decide +kernel) ?_;refine freezeA 5 _ rfl (KA 6 Keeps.nil) ?_;refine seqR (S Mv (S NB (S As (nil ?_))));exact rt hE
def Z26 (a0:Z11) (a1:Bool) (a2:Z0):Option Z0:=some (Z0.mk a2.Fd a0 a1 a2.Fnodes)
theorem Z26_walk {a0:Z11}{a1:Bool}{a2:Z0}{c2:Nat}{r:Z0}(hE:Z26 a0 a1 a2=some r) (H:Heap) (hc2:H c2=some (.cells (Z0.c a2))):ACallsD Tryz.prog 275 [.d (.view (Z11.c a0)),.d (.view (boolE a1)),.d (.view [.ptr c2 0])] H fun v h'=>v=.tup []/\h'=(H.set c2 (some (.cells (Z0.c r)))):=by
 unfold Z26 at hE;refine ACallsD.of_wp (fn:=Tryz.f275) (c:=_) Tryz.tab_ok (fun _ _=>Tryz.call275 _ _) Tryz.func275 rfl (n:=11) rfl (rs:=[]) rfl rfl ?_;refine AWp.heqA (h':=(H.set c2 (some (.cells (Z0.c a2))))) (by funext n_; simp only [Heap.set]; (repeat' split)<;>simp_all) ?_;refine region ?_;refine S Ld (S Ld (S Ld (S Ld (S NP ?_))));refine s0 (fieldP (TK rfl) rfl rfl (TK rfl) rfl rfl) rfl ?_;refine sHn (storeP' (TK rfl) rfl rfl hpG rfl (Nat.le_of_ble_eq_true rfl) rfl rfl) rfl rfl ?_
 refine hq (H.set c2 (some (.cells (Z0.c (Z0.mk a2.Fd a0 a2.Fliteral a2.Fnodes))))) ?_;refine S NP ?_;refine s0 (fieldP (TK rfl) rfl rfl (TK rfl) rfl rfl) rfl ?_;refine sHn (storeP1 (TK rfl) rfl rfl hpG rfl (by repeat (first|exact SetAt.zero|apply SetAt.succ))) rfl rfl ?_;refine hq (H.set c2 (some (.cells (Z0.c (Z0.mk a2.Fd a0 a1 a2.Fnodes))))) ?_;refine nil ?_;repeat (first|refine xBlock_normal ?_|refine xThen_exit ?_|refine xBlock_exit ?_)
 obtain rfl:=oJ hE;refine retQ.normalF (H.set c2 (some (.cells (Z0.c (Z0.mk a2.Fd a0 a1 a2.Fnodes))))) (xs:=[]) rfl ⟨rfl,rfl⟩ ?_;exact(fun _ _ h=>h)
def Tryz.lay71_ren:Go.Shelf.Ren:=⟨fun|171=>71|243=>125|246=>180|283=>218|284=>219|285=>220|286=>221|129=>250|317=>249|318=>251|319=>252|320=>253|337=>270|338=>271|n=>n,fun|3=>3|9=>9|2=>2|4=>4|171=>256|0=>0|53=>257|37=>128|5=>5|173=>260|212=>286|51=>266|20=>20|213=>287|46=>190|232=>308|233=>309|n=>n,fun|17=>4|18=>5|19=>6|n=>n⟩
theorem Tryz.lay71:Go.Proofs.LaysM.n171 Tryz.prog Tryz.lay71_ren:={
 mixed:=by kernel_rfl
 f129:=Tryz.func250.trans (congrArg some (by kernel_rfl))
 f171:=Tryz.func71.trans (congrArg some (by kernel_rfl))
 f243:=Tryz.func125.trans (congrArg some (by kernel_rfl))
 f246:=Tryz.func180.trans (congrArg some (by kernel_rfl))
 f283:=Tryz.func218.trans (congrArg some (by kernel_rfl))
 f284:=Tryz.func219.trans (congrArg some (by kernel_rfl))
 f285:=Tryz.func220.trans (congrArg some (by kernel_rfl))
 f286:=Tryz.func221.trans (congrArg some (by kernel_rfl))
 f317:=Tryz.func249.trans (congrArg some (by kernel_rfl))
 f318:=Tryz.func251.trans (congrArg some (by kernel_rfl))
 f319:=Tryz.func252.trans (congrArg some (by kernel_rfl))
 f320:=Tryz.func253.trans (congrArg some (by kernel_rfl))
 f337:=Tryz.func270.trans (congrArg some (by kernel_rfl))
 f338:=Tryz.func271.trans (congrArg some (by kernel_rfl))
 t0:=Tryz.underlying0
 a0:=Tryz.isAgg0
 z0:=Tryz.sizeOf0
 v0:=Tryz.zeroValue0
 t2:=Tryz.underlying2
 a2:=Tryz.isAgg2
 z2:=Tryz.sizeOf2
 v2:=Tryz.zeroValue2
 t3:=Tryz.underlying3
 a3:=Tryz.isAgg3
 z3:=Tryz.sizeOf3
 v3:=Tryz.zeroValue3
 t4:=Tryz.underlying4
 a4:=Tryz.isAgg4
 z4:=Tryz.sizeOf4
 v4:=Tryz.zeroValue4
 t5:=Tryz.underlying5
 a5:=Tryz.isAgg5
 z5:=Tryz.sizeOf5
 v5:=Tryz.zeroValue5
 t9:=Tryz.underlying9
 a9:=Tryz.isAgg9
 z9:=Tryz.sizeOf9
 v9:=Tryz.zeroValue9
 t20:=Tryz.underlying20
 a20:=Tryz.isAgg20
 z20:=Tryz.sizeOf20
 v20:=Tryz.zeroValue20
 t37:=Tryz.underlying128
 a37:=Tryz.isAgg128
 z37:=Tryz.sizeOf128
 v37:=Tryz.zeroValue128
 t46:=Tryz.underlying190
 a46:=Tryz.isAgg190
 z46:=Tryz.sizeOf190
 v46:=Tryz.zeroValue190
 t51:=Tryz.underlying266
 a51:=Tryz.isAgg266
 z51:=Tryz.sizeOf266
 v51:=Tryz.zeroValue266
 t53:=Tryz.underlying257
 a53:=Tryz.isAgg257
 z53:=Tryz.sizeOf257
 v53:=Tryz.zeroValue257
 t171:=Tryz.underlying256
 a171:=Tryz.isAgg256
 z171:=Tryz.sizeOf256
 v171:=Tryz.zeroValue256
 t173:=Tryz.underlying260
 a173:=Tryz.isAgg260
 z173:=Tryz.sizeOf260
 v173:=Tryz.zeroValue260
 t212:=Tryz.underlying286
 a212:=Tryz.isAgg286
 z212:=Tryz.sizeOf286
 v212:=Tryz.zeroValue286
 t213:=Tryz.underlying287
 a213:=Tryz.isAgg287
 z213:=Tryz.sizeOf287
 t232:=Tryz.underlying308
 a232:=Tryz.isAgg308
 z232:=Tryz.sizeOf308
 v232:=Tryz.zeroValue308
 t233:=Tryz.underlying309
 a233:=Tryz.isAgg309
 z233:=Tryz.sizeOf309
 v233:=Tryz.zeroValue309
 g17:=by kernel_rfl
 g18:=by kernel_rfl
 g19:=by kernel_rfl
 i0:=by kernel_rfl
 i2:=by kernel_rfl
 i3:=by kernel_rfl
 i4:=by kernel_rfl
 i5:=by kernel_rfl
 i9:=by kernel_rfl
 i20:=by kernel_rfl
 i37:=by kernel_rfl
 i46:=by kernel_rfl
 i51:=by kernel_rfl
 i53:=by kernel_rfl
 i171:=by kernel_rfl
 i173:=by kernel_rfl
 i212:=by kernel_rfl
 i232:=by kernel_rfl
 i233:=by kernel_rfl
 m17:=by kernel_rfl
 m18:=by kernel_rfl
 m19:=by kernel_rfl }
def Z104 (n:Int):Option Bs:=if -9223372036854775808<=n/\n<=9223372036854775807/\(Lib.itoa n).length<=maxS then some (Lib.itoa n) else none
theorem Z104_walk {a0:Int}{oT:Ab.Obj}{gT:Nat}{r:Bs}(hE:Z104 a0=some r) (H:Heap) (hgT:H gT=some oT) (hoT:IsTab Tryz.prog oT):AC Tryz.prog 71 [.d (.int .i64 a0)] H fun v h'=>v=.a (.d (.str r))/\h'=H:=by
 unfold Z104 at hE
 split at hE
 ·rename_i h
  obtain rfl:=oJ hE;exact itoa_calls Tryz.lay71 h.1 h.2.1 rfl hgT hoT h.2.2
 cases hE
def Z113 (a0:Int):Option Bs:=(Z104 a0).bind fun x3=>some x3
theorem Z113_walk {a0:Int}{oT:Ab.Obj}{gT:Nat}{r:Bs}(hE:Z113 a0=some r) (H:Heap) (hgT:H gT=some oT) (hoT:IsTab Tryz.prog oT):AC Tryz.prog 35 [.d (.int .i64 a0)] H fun v h'=>v=.a (.d (.str r))/\h'=H:=by
 unfold Z113 at hE;refine AC.oW 5 [.tmp 2] Tryz.call35 Tryz.func35 ?_;refine seqR (S As (nil ?_));refine seqR (S Mv ?_);obtain⟨x3,gx3,hE⟩:=bO hE;refine s0 (callR rfl rfl (Z104_walk (gT:=gT) (oT:=oT) gx3 _ hpG (by assumption))) rfl ?_;refine S As (nil ?_);exact rt hE
def Z132 (a0:Bs):Option Z11:=some (Z11.mk (3:Int) (0:Int) a0 true ([]) (Sl.nil:Sl Bs))
theorem Z132_walk {a0:Bs}{r:Z11}(hE:Z132 a0=some r) (H:Heap) :AC Tryz.prog 88 [.d (.str a0)] H fun v h'=>v=.a (.agg (Z11.c r))/\h'=H:=by
 unfold Z132 at hE;refine AC.oW 5 [.cell 2 58] Tryz.call88 Tryz.func88 ?_;refine seqR ?_;refine Sl ?_;refine nil ?_;refine seqR (S Mv (S BU ?_));refine Sf ?_;refine nil ?_;exact rt hE
def Z98_j2  :Option Int:=some (-1:Int)
def Z98_l6 (a0:(Sl Z7)) (a1:(Z7->Option Bool)) :Nat->Nat->Option Int
 | 0,_=>none
 | n6+1,s8_7=>bif (decide (((s8_7:Nat):Int)<((a0.l.length:Nat):Int))) then((a0.l[s8_7]?).bind fun x14=>(a1 x14).bind fun x15=>bif x15 then(some ((s8_7:Nat):Int)) else((Z98_l6 a0 a1 n6) (s8_7+1))) else(Z98_j2   )
def Z98 (a0:(Sl Z7)) (a1:(Z7->Option Bool)):Option Int:=Z98_l6 a0 a1 (a0.l.length+1) 0
theorem Z98_walk {a0:Sl Z7}{a1:Z7->Option Bool}{w0:Option Nat}{cl1:List D}{k1:Nat}{r:Int}(hE:Z98 a0 a1=some r) (H:Heap) (hf1:∀x0 r,a1 x0=some r->∀H,AC Tryz.prog k1 ([.agg (Z7.c x0)]++cl1.map A.d) H fun v h'=>v=.a (.d (.bool r))/\h'=H):AC Tryz.prog 276 [.d (Sl.d 2 Z7.c w0 a0),.d (.func k1 cl1)] H fun v h'=>v=.a (.d (.int .i64 r))/\h'=H:=by
 unfold Z98 at hE;refine AC.oW 19 [.tmp 4] Tryz.call276 Tryz.func276 ?_;refine seqR (S As (nil ?_));refine seqJH kN (fun(z:Unit)=>[]) (fun z=>H) (fun z=>Z98_j2 =some r) ?_ ?_
 ·intro K2 hK2;refine seqR (S Mv ?_);refine sLen (f:=Z7.c) (s:=a0) (TK rfl) rfl rfl rfl rfl fun hL5=>?_;refine S Mv (nil ?_);refine block ?_;refine loopH (TA 0 (TA 1 (TA 7 kN))) (fun(z:Nat×Nat)=>[(8,.a (.d (.int .i64 ((z.2:Nat):Int))))]) (fun z=>H) (fun z=>z.1) (fun z=>Z98_l6 a0 a1 z.1 z.2=some r) ((a0.l.length+1),0) hE wA ?_;rintro ⟨n6,s8_7⟩ hE K6 hK6;try dsimp only at hE
  cases n6 with
  | zero=>cases hE
  | succ n6 =>
    rw [Z98_l6] at hE;refine seqR (S BI (nil ?_));refine seqK fun K9 hK9=>?_;refine cE hE (fun hc10 hE=>?_) (fun hc10 hE=>?_)
    ·try dsimp only at hc10
     have hf10:=oD hc10;refine sk hK9 ?_;clear hK9 K9;refine seqK fun K11 hK11=>?_;refine block ?_;refine seqR (S Mv (S As (nil ?_)));refine seqR (S Mv (S Mv (S Mv ?_)));obtain⟨x14,gx14,hE⟩:=bO hE;refine S (ix Z7.c s8_7 gx14) (S Ld ?_);obtain⟨x15,gx15,hE⟩:=bO hE;refine s0 (callP rfl rfl (hf1 _ _ gx15)) rfl ?_;refine nil ?_;refine cE hE (fun hc16 hE=>?_) (fun hc16 hE=>?_)
     ·refine seqR (S Mv (S As (nil ?_)));exact rt hE
     refine sk hK11 ?_;clear hK11 K11;refine region ?_;refine SI ?_;refine S Mv (nil ?_);exact hK6 _ (n6,(s8_7+1)) wA hE (nS _)
    refine AWp.exit ?_;exact hK2 _ () wA hE
 rintro _ hE;try dsimp only at hE
 unfold Z98_j2 at hE;refine seqR (S As (nil ?_));exact rt hE
def Z89 (a0:(Sl Z7)) (a1:(Z7->Option Bool)):Option Bool:=(Z98 a0 a1).bind fun x3=>some (decide ((0:Int)<=x3))
theorem Z89_walk {a0:Sl Z7}{a1:Z7->Option Bool}{w0:Option Nat}{cl1:List D}{k1:Nat}{r:Bool}(hE:Z89 a0 a1=some r) (H:Heap) (hf1:∀x0 r,a1 x0=some r->∀H,AC Tryz.prog k1 ([.agg (Z7.c x0)]++cl1.map A.d) H fun v h'=>v=.a (.d (.bool r))/\h'=H):AC Tryz.prog 264 [.d (Sl.d 2 Z7.c w0 a0),.d (.func k1 cl1)] H fun v h'=>v=.a (.d (.bool r))/\h'=H:=by
 unfold Z89 at hE;refine AC.oW 9 [.tmp 4] Tryz.call264 Tryz.func264 ?_;refine seqR (S As (nil ?_));refine seqR (S Mv (S Mv ?_));obtain⟨x3,gx3,hE⟩:=bO hE;refine s0 (callP rfl rfl (fun H=>Z98_walk gx3 H hf1)) rfl ?_;refine S BI (S As (nil ?_));exact rt hE
def Z23 (a0:Z7) (a1:Z11):Option Bool:=some ((a0.FName==a1.FText))
theorem Z23_walk {a0:Z7}{a1:Z11}{r:Bool}(hE:Z23 a0 a1=some r) (H:Heap) :AC Tryz.prog 265 [.agg (Z7.c a0),.d (.view (Z11.c a1))] H fun v h'=>v=.a (.d (.bool r))/\h'=H:=by
 unfold Z23 at hE;refine AC.oW 9 [.tmp 3] Tryz.call265 Tryz.func265 ?_;refine seqR (S BX (S As (nil ?_)));refine seqR (S Fv (S Ld (S Fv (S Ld (S BS (S As (nil ?_)))))));exact rt hE
end Go.Proofs

namespace Go.Proofs
open Go Go.Ab
open AOps Cert AWp Keeps KeepsT
variable {lou:Lou}
def Z22_j3  (s8_4:Bool) (y5_l0:Z11):Option (Z11×Int):=bif (!s8_4) then(some ((Z11.mk (0:Int) (0:Int) ([]:Bs) true ([]) (Sl.nil:Sl Bs)),(23:Int))) else(some (y5_l0,(0:Int)))
def Z22_j20  (y21_l0:Z11):Option (Z11×Int):=Z22_j3   (decide (y21_l0.FKind=(3:Int))) y21_l0
def Z22_j26 (a0:Z0) (a1:Bs)  (y27_l0:Z11):Option (Z11×Int):=(Z79 a0.Fd a1).bind fun x29=>guardO ((decide (y27_l0.FKind=(4:Int)))) (Z89 x29.1.FMembers (fun y0=>Z23 y0 y27_l0)) false fun x30=>bif (!((decide (y27_l0.FKind=(4:Int)))&&x30)) then(some ((Z11.mk (0:Int) (0:Int) ([]:Bs) true ([]) (Sl.nil:Sl Bs)),(23:Int))) else(some (y27_l0,(0:Int)))
def Z22 (a0:Z0) (a1:Bs) (a2:Z11):Option (Z11×Int):=bif ((a1==([73,110,116]:Bs))) then(Z22_j3   (((decide (a2.FKind=(2:Int)))&&(decide ((-2147483648:Int)<=a2.FInt)))&&(decide (a2.FInt<(2147483648:Int)))) a2) else(bif ((a1==([83,116,114,105,110,103]:Bs))) then(Z22_j3   (decide (a2.FKind=(3:Int))) a2) else(bif ((a1==([66,111,111,108,101,97,110]:Bs))) then(Z22_j3   (decide (a2.FKind=(1:Int))) a2) else(bif ((a1==([73,68]:Bs))) then(bif (decide (a2.FKind=(2:Int))) then((Z113 a2.FInt).bind fun x24=>(Z132 x24).bind fun x25=>Z22_j20   x25) else(Z22_j20   a2)) else(bif ((decide (a2.FKind=(3:Int)))&&(!a0.Fliteral)) then(Z22_j26 a0 a1  (Z11.mk (4:Int) a2.FInt a2.FText a2.FItems.nl a2.FItems.l a2.FKeys)) else(Z22_j26 a0 a1  a2)))))
theorem Z22_walk {a0:Z0}{a1:Bs}{a2:Z11}{oT:Ab.Obj}{c0 gT:Nat}{r:Z11×Int}(hE:Z22 a0 a1 a2=some r) (H:Heap) (hc0:H c0=some (.cells (Z0.c a0))) (hgT:H gT=some oT) (hoT:IsTab Tryz.prog oT):AC Tryz.prog 245 [.d (.ptr c0 0),.d (.str a1),.agg (Z11.c a2)] H fun v h'=>v=.tup [.agg (Z11.c r.1),.d (.int .i64 r.2)]/\h'=H:=by
 unfold Z22 at hE;refine AC.oW 82 [.cell 6 58,.tmp 7] Tryz.call245 Tryz.func245 ?_;refine seqR ?_;refine sL (boxL rfl (by repeat (first|exact Snoc.nil|apply Snoc.cons))) rfl ?_;refine Sl ?_;refine S As (nil ?_);refine seqR (S As (nil ?_));refine AWp.seqJD (TA 5 (TA 6 kN)) (fun(z:Bool×Z11)=>[(8,.a (.d (.bool z.1)))]) (fun z=>[Z11.c z.2,Z11.c Z11.zero]) (fun z=>H) (fun z=>Z22_j3 z.1 z.2=some r) ?_ ?_
 ·intro K3 hK3 hD3;refine seqR (S Mv (nil ?_));refine block ?_;refine seqR (S BS (S As (nil ?_)));refine cE hE (fun hc13 hE=>?_) (fun hc13 hE=>?_)
  ·refine region ?_;refine S FL (S LL (S BI (S Mv (G0 FL ?_))));refine gC rfl rfl (fun hC=>ungdLA (k:=47) rfl (loadL (TK rfl) rfl rfl rfl rfl)) rfl ?_;refine G1 48 rfl BI ?_;refine S PA (S Mv (G0 FL ?_));refine gC rfl rfl (fun hC=>ungdLA (k:=52) rfl (loadL (TK rfl) rfl rfl rfl rfl)) rfl ?_;refine G1 53 rfl BI ?_;refine S PA (S As (nil ?_));exact hK3 _ ((((decide (a2.FKind=(2:Int)))&&(decide ((-2147483648:Int)<=a2.FInt)))&&(decide (a2.FInt<(2147483648:Int)))),a2) wA hE
  refine seqR (S BS (S As (nil ?_)));refine cE hE (fun hc15 hE=>?_) (fun hc15 hE=>?_)
  ·refine region ?_;refine S FL (S LL (S BI (S As (nil ?_))));exact hK3 _ ((decide (a2.FKind=(3:Int))),a2) wA hE
  refine seqR (S BS (S As (nil ?_)));refine cE hE (fun hc17 hE=>?_) (fun hc17 hE=>?_)
  ·refine region ?_;refine S FL (S LL (S BI (S As (nil ?_))));exact hK3 _ ((decide (a2.FKind=(1:Int))),a2) wA hE
  refine seqR (S BS (S As (nil ?_)));refine cE hE (fun hc19 hE=>?_) (fun hc19 hE=>?_)
  ·refine seqJ (TA 5 (TA 6 kN)) (fun(z:Z11)=>[]) (fun z=>[Z11.c z,Z11.c Z11.zero]) (fun z=>H) (fun z=>Z22_j20 z=some r) ?_ ?_
   ·intro K20 hK20;refine seqR (S FL (S LL (S BI (nil ?_))));refine cE hE (fun hc23 hE=>?_) (fun hc23 hE=>?_)
    ·refine region ?_;refine S FL (S LL ?_);obtain⟨x24,gx24,hE⟩:=bO hE;refine s0 (callR rfl rfl (Z113_walk (gT:=gT) (oT:=oT) gx24 _ hpG (by assumption))) rfl ?_;obtain⟨x25,gx25,hE⟩:=bO hE;refine Sc rfl rfl (Z132_walk gx25) ?_;refine Sf ?_;refine nil ?_;exact hK20 _ x25 wA hE
    refine AWp.skip ?_;exact hK20 _ a2 wA hE
   rintro y21_l0 hE;try dsimp only at hE
   unfold Z22_j20 at hE;refine region ?_;refine S FL (S LL (S BI (S As (nil ?_))));exact hK3 _ ((decide (y21_l0.FKind=(3:Int))),y21_l0) wA hE
  refine seqJ (TA 0 (TA 1 (TA 5 (TA 6 kN)))) (fun(z:Z11)=>[]) (fun z=>[Z11.c z,Z11.c Z11.zero]) (fun z=>H) (fun z=>Z22_j26 a0 a1 z=some r) ?_ ?_
  ·intro K26 hK26;refine seqR (S FL (S LL (S BI (S Mv (G0 Mv ?_)))));refine G1 16 rfl NP ?_;refine gC rfl rfl (fun hC=>ungdA (k:=17) rfl (fieldP (TK rfl) rfl rfl (TK rfl) rfl rfl)) rfl ?_;refine gC rfl rfl (fun hC=>ungdA (k:=18) rfl (loadP (TK rfl) rfl rfl hpG rfl)) rfl ?_;refine G1 19 rfl NB ?_;refine S PA (nil ?_);refine cE hE (fun hc37 hE=>?_) (fun hc37 hE=>?_)
   ·refine region ?_;refine S FL ?_;refine AOps.relocal 0 (Z11.cu a2) rfl (fun j w cs hh hx=>by rw [<- Z11.cu_eq]; exact hx) ?_;refine Sf ?_;refine AOps.relocal 0 (Z11.c (Z11.mk (4:Int) a2.FInt a2.FText a2.FItems.nl a2.FItems.l a2.FKeys)) rfl (fun j w cs hh hx=>by rw [Z11.cu_eq]; exact hx) ?_;refine nil ?_;exact hK26 _ (Z11.mk (4:Int) a2.FInt a2.FText a2.FItems.nl a2.FItems.l a2.FKeys) wA hE
   refine AWp.skip ?_;exact hK26 _ a2 wA hE
  rintro y27_l0 hE;try dsimp only at hE
  unfold Z22_j26 at hE;refine seqR (S Mv (S NP ?_));refine s0 (fieldP (TK rfl) rfl rfl (TK rfl) rfl rfl) rfl ?_;refine s0 (loadP (TK rfl) rfl rfl hpG rfl) rfl ?_;refine S Mv ?_;obtain⟨x29,gx29,hE⟩:=bO hE;refine Sc rfl rfl (Z79_walk gx29) ?_;refine S Mv (S EX (S EX ?_));refine Sl ?_;refine Sf ?_;refine S As (nil ?_);refine freezeA 9 _ rfl (KA 5 (KA 6 Keeps.nil)) ?_;refine AWp.freezeAt 5 _ rfl rfl ?_
  refine region ?_;refine S Fv (S Ld (S BI (S Mv (G0 Fv ?_))));refine G1 36 rfl Ld ?_;refine gC rfl rfl (fun hC=>makeFunc rfl) rfl ?_;obtain⟨x30,gx30,hE⟩:=gO hE;refine gC rfl rfl (fun hC=>ungdA (k:=37) rfl (ungdA (k:=38) rfl (callP rfl rfl (fun H=>Z89_walk (gx30 hC) H (fun _ _ hx=>Z23_walk hx))))) rfl ?_;refine S PA (S As (nil ?_));refine hD3 _ ?_;refine seqK fun K31 hK31=>?_;refine seqR (S Mv (S NB (nil ?_)))
  refine cE hE (fun hc33 hE=>?_) (fun hc33 hE=>?_)
  ·refine seqR (S BU ?_);refine Sf ?_;refine S As (nil ?_);exact rt hE
  refine sk hK31 ?_;clear hK31 K31;refine seqR (S Ld ?_);refine Sf ?_;refine S As (nil ?_);exact rt hE
 rintro ⟨s8_4,y5_l0⟩ hE;try dsimp only at hE
 unfold Z22_j3 at hE;refine seqK fun K6 hK6=>?_;refine seqR (S Mv (S NB (nil ?_)));refine cE hE (fun hc8 hE=>?_) (fun hc8 hE=>?_)
 ·refine seqR (S BU ?_);refine Sf ?_;refine S As (nil ?_);exact rt hE
 refine sk hK6 ?_;clear hK6 K6;refine seqR (S LL ?_);refine Sf ?_;refine S As (nil ?_);exact rt hE
end Go.Proofs

namespace Go.Proofs
open Go Go.Ab
open AOps Cert AWp Keeps KeepsT
variable {lou:Lou}
def coerce_coercer_at_j7 (a1:TRef) (a3:Int) (k_rec_243:Z0->TRef->Z11->Int->Option (Z11×Int×Z0)) (k_rec_244:Z0->TDef->Z11->Int->Option (Z11×Int×Z0)) (y8_c0:Z0) (y9_l0:Z11) (y10_l1:Z11):Option (Z11×Int×Z0):=(Z21 y8_c0 a3).bind fun x13=>bif (!decide (x13.1=(0:Int))) then(some ((Z11.mk (0:Int) (0:Int) ([]:Bs) true ([]) (Sl.nil:Sl Bs)),x13.1,x13.2)) else(bif (decide (y9_l0.FKind=(0:Int))) then((Z119 a1).bind fun x22=>bif x22 then(some ((Z11.mk (0:Int) (0:Int) ([]:Bs) true ([]) (Sl.nil:Sl Bs)),(23:Int),x13.2)) else(some ((Z11.mk (0:Int) (0:Int) ([]:Bs) true ([]) (Sl.nil:Sl Bs)),(0:Int),x13.2))) else((Z117 a1).bind fun x28=>bif x28.2 then((k_rec_243 x13.2 x28.1 y9_l0 a3).bind fun x32=>some (x32.1,x32.2.1,x32.2.2)) else((Z79 x13.2.Fd a1.FName).bind fun x35=>guardO (x35.2) (Z84 a1.FName) false fun x37=>bif ((x35.2&&(!x37))&&(decide (x35.1.FKind=(5:Int)))) then((k_rec_244 x13.2 x35.1 y9_l0 a3).bind fun x40=>some (x40.1,x40.2.1,x40.2.2)) else((Z22 x13.2 a1.FName y9_l0).bind fun x42=>some (x42.1,x42.2,x13.2)))))
def coerce_coercer_list_j7  (y8_c0:Z0) (y9_l0:Z11) (y10_l1:Z11):Option (Z11×Int×Z0):=some (y10_l1,(0:Int),y8_c0)
def coerce_coercer_list_l14 (a1:TRef) (a3:Int) (s10_4:(Sl Z11)) (k_rec_213:Z0->TRef->Z11->Int->Option (Z11×Int×Z0)):Nat->Nat->Z0->Z11->Z11->Option (Z11×Int×Z0)
 | 0,_,_,_,_=>none
 | n14+1,s26_15,y16_c0,y17_l0,y18_l1=>bif (decide (((s26_15:Nat):Int)<((s10_4.l.length:Nat):Int))) then((s10_4.l[s26_15]?).bind fun x24=>(addC a3 (1:Int)).bind fun x26=>(k_rec_213 y16_c0 a1 x24 x26).bind fun x27=>bif (!decide (x27.2.1=(0:Int))) then(some ((Z11.mk (0:Int) (0:Int) ([]:Bs) true ([]) (Sl.nil:Sl Bs)),x27.2.1,x27.2.2)) else((appC 80 y18_l1.FItems (⟨false,[x27.1]⟩:Sl Z11)).bind fun x32=>(coerce_coercer_list_l14 a1 a3 s10_4 k_rec_213 n14) (s26_15+1) x27.2.2 y17_l0 (Z11.mk y18_l1.FKind y18_l1.FInt y18_l1.FText x32.nl x32.l y18_l1.FKeys))) else(coerce_coercer_list_j7   y16_c0 y17_l0 y18_l1)
def coerce_coercer_list_j3 (a0:Z0) (a1:TRef) (a3:Int) (k_rec_213:Z0->TRef->Z11->Int->Option (Z11×Int×Z0)) (s10_4:(Sl Z11)):Option (Z11×Int×Z0):=coerce_coercer_list_l14 a1 a3 s10_4 k_rec_213 (s10_4.l.length+1) 0 a0 Z11.zero (Z11.mk (5:Int) (0:Int) ([]:Bs) true ([]) (Sl.nil:Sl Bs))
def coerce_coercer_object_j11  (y12_c0:Z0) (y13_l0:Z11) (y14_l1:Z11):Option (Z11×Int×Z0):=some (y14_l1,(0:Int),y12_c0)
def coerce_coercer_object_j26 (s49_19:Nat) (k_next_18:Nat->Z0->Z11->Z11->Option (Z11×Int×Z0)) (y27_c0:Z0) (y28_l0:Z11) (y29_l1:Z11):Option (Z11×Int×Z0):=k_next_18 (s49_19+1) y27_c0 y28_l0 y29_l1
def coerce_coercer_object_j42 (s49_19:Nat) (y21_l0:Z11) (y22_l1:Z11) (x31:Z6) (k_next_18:Nat->Z0->Z11->Z11->Option (Z11×Int×Z0)) (s22_43:Int) (y44_c0:Z0) (y45_l2:Z11):Option (Z11×Int×Z0):=bif (!decide (s22_43=(0:Int))) then(some ((Z11.mk (0:Int) (0:Int) ([]:Bs) true ([]) (Sl.nil:Sl Bs)),s22_43,y44_c0)) else((appC 16 y22_l1.FKeys (⟨false,[x31.FName]⟩:Sl Bs)).bind fun x50=>(appC 80 y22_l1.FItems (⟨false,[y45_l2]⟩:Sl Z11)).bind fun x51=>coerce_coercer_object_j26 s49_19 k_next_18 y44_c0 y21_l0 (Z11.mk y22_l1.FKind y22_l1.FInt y22_l1.FText x51.nl x51.l x50))
def coerce_coercer_object_l18 (a1:TDef) (a2:Z11) (a3:Int) (k_rec_213:Z0->TRef->Z11->Int->Option (Z11×Int×Z0)) (k_rec_263:Z0->Z6->Int->Option (Z11×Int×Z0)):Nat->Nat->Z0->Z11->Z11->Option (Z11×Int×Z0)
 | 0,_,_,_,_=>none
 | n18+1,s49_19,y20_c0,y21_l0,y22_l1=>bif (decide (((s49_19:Nat):Int)<((a1.FInputs.l.length:Nat):Int))) then((a1.FInputs.l[s49_19]?).bind fun x31=>(partC a1.FInputs none (some ((s49_19:Nat):Int))).bind fun x34=>(Z80 x34 x31.FName).bind fun x35=>bif x35.2 then(coerce_coercer_object_j26 s49_19 ((coerce_coercer_object_l18 a1 a2 a3 k_rec_213 k_rec_263 n18)) y20_c0 y21_l0 y22_l1) else((Z127 a2 x31.FName).bind fun x39=>guardO (x39.2) (Z24 y20_c0 x39.1) false fun x53=>bif (x39.2&&(!x53)) then((addC a3 (1:Int)).bind fun x55=>(k_rec_213 y20_c0 x31.FType x39.1 x55).bind fun x56=>coerce_coercer_object_j42 s49_19 y21_l0 y22_l1 x31 ((coerce_coercer_object_l18 a1 a2 a3 k_rec_213 k_rec_263 n18)) x56.2.1 x56.2.2 x56.1) else(bif x31.FHas then((addC a3 (1:Int)).bind fun x59=>(k_rec_263 y20_c0 x31 x59).bind fun x60=>coerce_coercer_object_j42 s49_19 y21_l0 y22_l1 x31 ((coerce_coercer_object_l18 a1 a2 a3 k_rec_213 k_rec_263 n18)) x60.2.1 x60.2.2 x60.1) else((Z119 x31.FType).bind fun x62=>bif x62 then(coerce_coercer_object_j42 s49_19 y21_l0 y22_l1 x31 ((coerce_coercer_object_l18 a1 a2 a3 k_rec_213 k_rec_263 n18)) (22:Int) y20_c0 Z11.zero) else(coerce_coercer_object_j26 s49_19 ((coerce_coercer_object_l18 a1 a2 a3 k_rec_213 k_rec_263 n18)) y20_c0 y21_l0 y22_l1))))) else(coerce_coercer_object_j11   y20_c0 y21_l0 y22_l1)
def coerce_coercer_object_j6 (a0:Z0) (a1:TDef) (a2:Z11) (a3:Int) (k_rec_213:Z0->TRef->Z11->Int->Option (Z11×Int×Z0)) (k_rec_263:Z0->Z6->Int->Option (Z11×Int×Z0)) (y7_l0:Z11):Option (Z11×Int×Z0):=coerce_coercer_object_l18 a1 a2 a3 k_rec_213 k_rec_263 (a1.FInputs.l.length+1) 0 a0 y7_l0 (Z11.mk (6:Int) (0:Int) ([]:Bs) true ([]) (Sl.nil:Sl Bs))
def coerce_coercer_object_l66 (a0:Z0) (a1:TDef) (a2:Z11) (a3:Int) (k_rec_213:Z0->TRef->Z11->Int->Option (Z11×Int×Z0)) (k_rec_263:Z0->Z6->Int->Option (Z11×Int×Z0)):Nat->Nat->Z11->Option (Z11×Int×Z0)
 | 0,_,_=>none
 | n66+1,s30_67,y68_l0=>bif (decide (((s30_67:Nat):Int)<((a2.FKeys.l.length:Nat):Int))) then((a2.FKeys.l[s30_67]?).bind fun x74=>(Z80 a1.FInputs x74).bind fun x76=>bif (!x76.2) then(some ((Z11.mk (0:Int) (0:Int) ([]:Bs) true ([]) (Sl.nil:Sl Bs)),(22:Int),a0)) else((coerce_coercer_object_l66 a0 a1 a2 a3 k_rec_213 k_rec_263 n66) (s30_67+1) y68_l0)) else(coerce_coercer_object_j6 a0 a1 a2 a3 k_rec_213 k_rec_263 y68_l0)
mutual
def coerce_coercer_at_n:Nat->Z0->TRef->Z11->Int->Option (Z11×Int×Z0)
 | 0,_,_,_,_=>none
 | n+1,a0,a1,a2,a3=>(Z81 a0.Fd a1.FName).bind fun x4=>bif (!x4) then(some ((Z11.mk (0:Int) (0:Int) ([]:Bs) true ([]) (Sl.nil:Sl Bs)),(10:Int),a0)) else(bif ((decide (a2.FKind=(7:Int)))&&a0.Fliteral) then((Z127 a0.Fvars a2.FText).bind fun x46=>bif (!decide (x46.1.FKind=(0:Int))) then((Z27 a0 x46.1 a3).bind fun x50=>bif (!decide (x50.1=(0:Int))) then(some ((Z11.mk (0:Int) (0:Int) ([]:Bs) true ([]) (Sl.nil:Sl Bs)),x50.1,x50.2)) else(some (x46.1,(0:Int),x50.2))) else(coerce_coercer_at_j7 a1 a3 (coerce_coercer_list_n n) (coerce_coercer_object_n n) a0 x46.1 Z11.zero)) else(coerce_coercer_at_j7 a1 a3 (coerce_coercer_list_n n) (coerce_coercer_object_n n) a0 a2 Z11.zero))
def coerce_coercer_list_n:Nat->Z0->TRef->Z11->Int->Option (Z11×Int×Z0)
 | 0,_,_,_,_=>none
 | n+1,a0,a1,a2,a3=>bif (!decide (a2.FKind=(5:Int))) then(coerce_coercer_list_j3 a0 a1 a3 (coerce_coercer_at_n n) (⟨false,[a2]⟩:Sl Z11)) else(coerce_coercer_list_j3 a0 a1 a3 (coerce_coercer_at_n n) a2.FItems)
def coerce_coercer_object_n:Nat->Z0->TDef->Z11->Int->Option (Z11×Int×Z0)
 | 0,_,_,_,_=>none
 | n+1,a0,a1,a2,a3=>bif (!decide (a2.FKind=(6:Int))) then(some ((Z11.mk (0:Int) (0:Int) ([]:Bs) true ([]) (Sl.nil:Sl Bs)),(23:Int),a0)) else(coerce_coercer_object_l66 a0 a1 a2 a3 (coerce_coercer_at_n n) (Z25_n n) (a2.FKeys.l.length+1) 0 Z11.zero)
def Z25_n:Nat->Z0->Z6->Int->Option (Z11×Int×Z0)
 | 0,_,_,_=>none
 | n+1,a0,a1,a2=>((coerce_coercer_at_n n) (Z0.mk a0.Fd (Z11.mk (0:Int) (0:Int) ([]:Bs) true ([]) (Sl.nil:Sl Bs)) true a0.Fnodes) a1.FType a1.FDefault a2).bind fun x5=>(Z26 a0.Fvars a0.Fliteral x5.2.2).bind fun x6=>some (x5.1,x5.2.1,x6)
end
theorem coerce_coercer_at_step (n:Nat) (ih_213:∀{a0:Z0}{a1:TRef}{a2:Z11}{a3:Int}{oT:Ab.Obj}{c0 gT:Nat}{r:Z11×Int×Z0},coerce_coercer_at_n n a0 a1 a2 a3=some r->∀(H:Heap) (hc0:H c0=some (.cells (Z0.c a0))) (hgT:H gT=some oT) (hoT:IsTab Tryz.prog oT),AC Tryz.prog 213 [.d (.ptr c0 0),.agg (TRef.c a1),.agg (Z11.c a2),.d (.int .i64 a3)] H fun v h'=>v=.tup [.agg (Z11.c r.1),.d (.int .i64 r.2.1)]/\h'=(H.set c0 (some (.cells (Z0.c r.2.2))))) (ih_243:∀{a0:Z0}{a1:TRef}{a2:Z11}{a3:Int}{oT:Ab.Obj}{c0 gT:Nat}{r:Z11×Int×Z0},coerce_coercer_list_n n a0 a1 a2 a3=some r->∀(H:Heap) (hc0:H c0=some (.cells (Z0.c a0))) (hgT:H gT=some oT) (hoT:IsTab Tryz.prog oT),AC Tryz.prog 243 [.d (.ptr c0 0),.agg (TRef.c a1),.agg (Z11.c a2),.d (.int .i64 a3)] H fun v h'=>v=.tup [.agg (Z11.c r.1),.d (.int .i64 r.2.1)]/\h'=(H.set c0 (some (.cells (Z0.c r.2.2))))) (ih_244:∀{a0:Z0}{a1:TDef}{a2:Z11}{a3:Int}{oT:Ab.Obj}{c0 gT:Nat}{r:Z11×Int×Z0},coerce_coercer_object_n n a0 a1 a2 a3=some r->∀(H:Heap) (hc0:H c0=some (.cells (Z0.c a0))) (hgT:H gT=some oT) (hoT:IsTab Tryz.prog oT),AC Tryz.prog 244 [.d (.ptr c0 0),.agg (TDef.c a1),.agg (Z11.c a2),.d (.int .i64 a3)] H fun v h'=>v=.tup [.agg (Z11.c r.1),.d (.int .i64 r.2.1)]/\h'=(H.set c0 (some (.cells (Z0.c r.2.2))))) (ih_263:∀{a0:Z0}{a1:Z6}{a2:Int}{oT:Ab.Obj}{c0 gT:Nat}{r:Z11×Int×Z0},Z25_n n a0 a1 a2=some r->∀(H:Heap) (hc0:H c0=some (.cells (Z0.c a0))) (hgT:H gT=some oT) (hoT:IsTab Tryz.prog oT),AC Tryz.prog 263 [.d (.ptr c0 0),.agg (Z6.c a1),.d (.int .i64 a2)] H fun v h'=>v=.tup [.agg (Z11.c r.1),.d (.int .i64 r.2.1)]/\h'=(H.set c0 (some (.cells (Z0.c r.2.2))))):∀{a0:Z0}{a1:TRef}{a2:Z11}{a3:Int}{oT:Ab.Obj}{c0 gT:Nat}{r:Z11×Int×Z0},coerce_coercer_at_n (n+1) a0 a1 a2 a3=some r->∀(H:Heap) (hc0:H c0=some (.cells (Z0.c a0))) (hgT:H gT=some oT) (hoT:IsTab Tryz.prog oT),AC Tryz.prog 213 [.d (.ptr c0 0),.agg (TRef.c a1),.agg (Z11.c a2),.d (.int .i64 a3)] H fun v h'=>v=.tup [.agg (Z11.c r.1),.d (.int .i64 r.2.1)]/\h'=(H.set c0 (some (.cells (Z0.c r.2.2)))):=by
 intro a0 a1 a2 a3 oT c0 gT r hE H hc0 hgT hoT;rw [coerce_coercer_at_n] at hE;refine AC.oW 119 [.cell 8 58,.tmp 9] Tryz.call213 Tryz.func213 ?_;have ne_gT_c0:gT≠c0:=fun e_=>by subst e_; obtain⟨_,_,_,e2_,_⟩:=hoT; simp_all
 refine AWp.heqA (h':=(H.set c0 (some (.cells (Z0.c a0))))) (by funext n_; simp only [Heap.set]; (repeat' split)<;>simp_all) ?_;refine seqR (S BX ?_);refine sL (boxL rfl (by repeat (first|exact Snoc.nil|apply Snoc.cons))) rfl ?_;refine Sl ?_;refine S As (nil ?_);refine seqK fun K2 hK2=>?_;refine AWp.seqD (Sd Mv (Sd NP ?_));refine DOps.s0 (fieldP (TK rfl) rfl rfl (TK rfl) rfl rfl) rfl ?_;refine DOps.s0 (loadP (TK rfl) rfl rfl hpG rfl) rfl ?_
 refine Sd Fv (Sd Ld ?_);obtain⟨x4,gx4,hE⟩:=bO hE;refine Scd rfl rfl (Z81_walk gx4) ?_;refine Sd NB ?_;refine DOps.nil (by decide +kernel) ?_;refine cE hE (fun hc5 hE=>?_) (fun hc5 hE=>?_)
 ·refine seqR (S BU ?_);refine Sf ?_;refine S As (nil ?_);exact rt hE
 refine sk hK2 ?_;clear hK2 K2;refine seqJ (TA 0 (TA 3 (TA 5 (TA 6 (TA 8 kN))))) (fun(z:Z0×Z11×Z11)=>[]) (fun z=>[Z11.c z.2.1,Z11.c z.2.2]) (fun z=>(H.set c0 (some (.cells (Z0.c z.1))))) (fun z=>coerce_coercer_at_j7 a1 a3 (coerce_coercer_list_n n) (coerce_coercer_object_n n) z.1 z.2.1 z.2.2=some r) ?_ ?_
 ·intro K7 hK7;refine seqR (S FL (S LL (S BI (S Mv (G0 Mv ?_)))));refine G1 29 rfl NP ?_;refine gC rfl rfl (fun hC=>ungdA (k:=30) rfl (fieldP (TK rfl) rfl rfl (TK rfl) rfl rfl)) rfl ?_;refine gC rfl rfl (fun hC=>ungdA (k:=31) rfl (loadP (TK rfl) rfl rfl hpG rfl)) rfl ?_;refine S PA (nil ?_);refine cE hE (fun hc44 hE=>?_) (fun hc44 hE=>?_)
  ·refine AWp.seqD (Sd Mv (Sd NP ?_));refine DOps.s0 (fieldP (TK rfl) rfl rfl (TK rfl) rfl rfl) rfl ?_;refine DOps.s0 (loadP (TK rfl) rfl rfl hpG rfl) rfl ?_;refine Sd FL (Sd LL ?_);obtain⟨x46,gx46,hE⟩:=bO hE;refine Scd rfl rfl (Z127_walk gx46) ?_;refine Sd Mv (Sd EX (Sd EX ?_));refine DOps.sLn (storeLFA (TK rfl) rfl rfl rfl rfl rfl) ?_;refine DOps.nil (by decide +kernel) ?_;refine seqR (S FL (S LL (S BI (nil ?_))))
   refine cE hE (fun hc48 hE=>?_) (fun hc48 hE=>?_)
   ·refine seqR (S Mv (S LL (S Mv ?_)));obtain⟨x50,gx50,hE⟩:=bO hE;refine sH (callH rfl rfl (Z27_walk gx50 _ hpG)) rfl ?_;refine hq (H.set c0 (some (.cells (Z0.c x50.2)))) ?_;refine S As (nil ?_);refine seqK fun K51 hK51=>?_;refine seqR (S Mv (S BI (nil ?_)));refine cE hE (fun hc53 hE=>?_) (fun hc53 hE=>?_)
    ·refine seqR (S BU (S Mv ?_));refine Sf ?_;refine S As (nil ?_);exact rt hE
    refine sk hK51 ?_;clear hK51 K51;refine seqR (S LL ?_);refine Sf ?_;refine S As (nil ?_);exact rt hE
   refine AWp.skip ?_;exact hK7 _ (a0,x46.1,Z11.zero) wA hE
  refine AWp.skip ?_;exact hK7 _ (a0,a2,Z11.zero) wA hE
 rintro ⟨y8_c0,y9_l0,y10_l1⟩ hE;try dsimp only at hE
 unfold coerce_coercer_at_j7 at hE;refine seqK fun K11 hK11=>?_;refine seqR (S Mv (S Mv ?_));obtain⟨x13,gx13,hE⟩:=bO hE;refine sH (callH rfl rfl (Z21_walk gx13 _ hpG)) rfl ?_;refine hq (H.set c0 (some (.cells (Z0.c x13.2)))) ?_;refine S As (nil ?_);refine seqR (S Mv (S BI (nil ?_)));refine cE hE (fun hc15 hE=>?_) (fun hc15 hE=>?_)
 ·refine seqR (S BU (S Mv ?_));refine Sf ?_;refine S As (nil ?_);exact rt hE
 refine sk hK11 ?_;clear hK11 K11;refine seqK fun K17 hK17=>?_;refine seqR (S FL (S LL (S BI (nil ?_))));refine cE hE (fun hc19 hE=>?_) (fun hc19 hE=>?_)
 ·refine seqK fun K20 hK20=>?_;refine seqR (S Ld ?_);obtain⟨x22,gx22,hE⟩:=bO hE;refine Sc rfl rfl (Z119_walk gx22) ?_;refine nil ?_;refine cE hE (fun hc23 hE=>?_) (fun hc23 hE=>?_)
  ·refine seqR (S BU ?_);refine Sf ?_;refine S As (nil ?_);exact rt hE
  refine sk hK20 ?_;clear hK20 K20;refine seqR (S BU ?_);refine Sf ?_;refine S As (nil ?_);exact rt hE
 refine sk hK17 ?_;clear hK17 K17;refine seqK fun K26 hK26=>?_;refine seqR (S Ld ?_);obtain⟨x28,gx28,hE⟩:=bO hE;refine Sc rfl rfl (Z117_walk gx28) ?_;refine S Mv (S EX (S EX ?_));refine Sl ?_;refine Sf ?_;refine S As (nil ?_);refine freezeA 12 _ rfl (KA 0 (KA 3 (KA 5 (KA 6 (KA 8 (KA 13 Keeps.nil)))))) ?_;refine seqR (S Mv (nil ?_));refine cE hE (fun hc30 hE=>?_) (fun hc30 hE=>?_)
 ·refine seqR (S Mv (S Ld (S LL (S Mv ?_))));obtain⟨x32,gx32,hE⟩:=bO hE;refine sH (callH rfl rfl (ih_243 (gT:=gT) (oT:=oT) gx32 _ hpG hpG (by assumption))) rfl ?_;refine hq (H.set c0 (some (.cells (Z0.c x32.2.2)))) ?_;refine S EX (S EX ?_);refine Sf ?_;refine S As (nil ?_);exact rt hE
 refine sk hK26 ?_;clear hK26 K26;refine seqK fun K33 hK33=>?_;refine AWp.seqD (Sd Mv (Sd NP ?_));refine DOps.s0 (fieldP (TK rfl) rfl rfl (TK rfl) rfl rfl) rfl ?_;refine DOps.s0 (loadP (TK rfl) rfl rfl hpG rfl) rfl ?_;refine Sd Fv (Sd Ld ?_);obtain⟨x35,gx35,hE⟩:=bO hE;refine Scd rfl rfl (Z79_walk gx35) ?_;refine Sd Mv (Sd EX (Sd EX ?_));refine DOps.sB (TK rfl) rfl rfl ?_ (by repeat (first|exact Snoc.nil|apply Snoc.cons))
 refine DOps.sLn (storeLFA (TK rfl) rfl rfl rfl rfl rfl) ?_;refine Sd As ?_;refine DOps.nil (by decide +kernel) ?_;refine freezeA 14 _ rfl (KA 0 (KA 3 (KA 5 (KA 6 (KA 8 (KA 15 Keeps.nil)))))) ?_;refine seqR (S Mv (S Mv (G0 Fv ?_)));refine G1 95 rfl Ld ?_;obtain⟨x37,gx37,hE⟩:=gO hE;refine Gc1 96 rfl rfl rfl rfl rfl (fun hC=>Z84_walk (gx37 hC)) ?_;refine G1 97 rfl NB ?_;refine S PA (S Mv (G0 Fv ?_))
 refine G1 101 rfl Ld ?_;refine G1 102 rfl BI ?_;refine S PA (nil ?_);refine cE hE (fun hc38 hE=>?_) (fun hc38 hE=>?_)
 ·refine seqR (S Mv (S Ld (S LL (S Mv ?_))));obtain⟨x40,gx40,hE⟩:=bO hE;refine sH (callH rfl rfl (ih_244 (gT:=gT) (oT:=oT) gx40 _ hpG hpG (by assumption))) rfl ?_;refine hq (H.set c0 (some (.cells (Z0.c x40.2.2)))) ?_;refine S EX (S EX ?_);refine Sf ?_;refine S As (nil ?_);exact rt hE
 refine sk hK33 ?_;clear hK33 K33;refine seqR (S Mv (S Fv (S Ld (S LL ?_))));obtain⟨x42,gx42,hE⟩:=bO hE;refine s0 (callR rfl rfl (Z22_walk (gT:=gT) (oT:=oT) gx42 _ hpG hpG (by assumption))) rfl ?_;refine S EX (S EX ?_);refine Sf ?_;refine S As (nil ?_);exact rt hE
theorem coerce_coercer_list_step (n:Nat) (ih_213:∀{a0:Z0}{a1:TRef}{a2:Z11}{a3:Int}{oT:Ab.Obj}{c0 gT:Nat}{r:Z11×Int×Z0},coerce_coercer_at_n n a0 a1 a2 a3=some r->∀(H:Heap) (hc0:H c0=some (.cells (Z0.c a0))) (hgT:H gT=some oT) (hoT:IsTab Tryz.prog oT),AC Tryz.prog 213 [.d (.ptr c0 0),.agg (TRef.c a1),.agg (Z11.c a2),.d (.int .i64 a3)] H fun v h'=>v=.tup [.agg (Z11.c r.1),.d (.int .i64 r.2.1)]/\h'=(H.set c0 (some (.cells (Z0.c r.2.2))))) (ih_243:∀{a0:Z0}{a1:TRef}{a2:Z11}{a3:Int}{oT:Ab.Obj}{c0 gT:Nat}{r:Z11×Int×Z0},coerce_coercer_list_n n a0 a1 a2 a3=some r->∀(H:Heap) (hc0:H c0=some (.cells (Z0.c a0))) (hgT:H gT=some oT) (hoT:IsTab Tryz.prog oT),AC Tryz.prog 243 [.d (.ptr c0 0),.agg (TRef.c a1),.agg (Z11.c a2),.d (.int .i64 a3)] H fun v h'=>v=.tup [.agg (Z11.c r.1),.d (.int .i64 r.2.1)]/\h'=(H.set c0 (some (.cells (Z0.c r.2.2))))) (ih_244:∀{a0:Z0}{a1:TDef}{a2:Z11}{a3:Int}{oT:Ab.Obj}{c0 gT:Nat}{r:Z11×Int×Z0},coerce_coercer_object_n n a0 a1 a2 a3=some r->∀(H:Heap) (hc0:H c0=some (.cells (Z0.c a0))) (hgT:H gT=some oT) (hoT:IsTab Tryz.prog oT),AC Tryz.prog 244 [.d (.ptr c0 0),.agg (TDef.c a1),.agg (Z11.c a2),.d (.int .i64 a3)] H fun v h'=>v=.tup [.agg (Z11.c r.1),.d (.int .i64 r.2.1)]/\h'=(H.set c0 (some (.cells (Z0.c r.2.2))))) (ih_263:∀{a0:Z0}{a1:Z6}{a2:Int}{oT:Ab.Obj}{c0 gT:Nat}{r:Z11×Int×Z0},Z25_n n a0 a1 a2=some r->∀(H:Heap) (hc0:H c0=some (.cells (Z0.c a0))) (hgT:H gT=some oT) (hoT:IsTab Tryz.prog oT),AC Tryz.prog 263 [.d (.ptr c0 0),.agg (Z6.c a1),.d (.int .i64 a2)] H fun v h'=>v=.tup [.agg (Z11.c r.1),.d (.int .i64 r.2.1)]/\h'=(H.set c0 (some (.cells (Z0.c r.2.2))))):∀{a0:Z0}{a1:TRef}{a2:Z11}{a3:Int}{oT:Ab.Obj}{c0 gT:Nat}{r:Z11×Int×Z0},coerce_coercer_list_n (n+1) a0 a1 a2 a3=some r->∀(H:Heap) (hc0:H c0=some (.cells (Z0.c a0))) (hgT:H gT=some oT) (hoT:IsTab Tryz.prog oT),AC Tryz.prog 243 [.d (.ptr c0 0),.agg (TRef.c a1),.agg (Z11.c a2),.d (.int .i64 a3)] H fun v h'=>v=.tup [.agg (Z11.c r.1),.d (.int .i64 r.2.1)]/\h'=(H.set c0 (some (.cells (Z0.c r.2.2)))):=by
 intro a0 a1 a2 a3 oT c0 gT r hE H hc0 hgT hoT;rw [coerce_coercer_list_n] at hE;refine AC.oW 51 [.cell 8 58,.tmp 9] Tryz.call243 Tryz.func243 ?_;have ne_gT_c0:gT≠c0:=fun e_=>by subst e_; obtain⟨_,_,_,e2_,_⟩:=hoT; simp_all
 refine AWp.heqA (h':=(H.set c0 (some (.cells (Z0.c a0))))) (by funext n_; simp only [Heap.set]; (repeat' split)<;>simp_all) ?_;refine seqR (S BX (S BX ?_));refine Sl ?_;refine S As (nil ?_);refine seqR (S Fv ?_);refine s0 (loadV (TK rfl) rfl rfl (congrArg (fun x=>some (A.d x)) (Z11.FItemsD_eq _))) rfl ?_;refine S As (nil ?_);refine seqJH (TA 0 (TA 3 (TA 5 (TA 8 kN)))) (fun(z:(Sl Z11))=>[(10,.a (.d (Sl.d 5 Z11.c none z)))]) (fun z=>(H.set c0 (some (.cells (Z0.c a0))))) (fun z=>coerce_coercer_list_j3 a0 a1 a3 (coerce_coercer_at_n n) z=some r) ?_ ?_
 ·intro K3 hK3;refine seqR (S Fv (S Ld (S BI (nil ?_))));refine cE hE (fun hc34 hE=>?_) (fun hc34 hE=>?_)
  ·refine region ?_;refine S Ld (S BV (S As (nil ?_)));exact hK3 _ (⟨false,[a2]⟩:Sl Z11) wA hE
  refine AWp.skip ?_;exact hK3 _ a2.FItems wA hE
 rintro s10_4 hE;try dsimp only at hE
 unfold coerce_coercer_list_j3 at hE;refine seqR (S BU ?_);refine Sl ?_;refine AOps.tok 5 fun tk11_6 htk11_6=>?_;obtain⟨ne_tk11_6_c0,htk11_6⟩:=Heap.set_fresh htk11_6;have ne_tk11_6_gT:tk11_6≠gT:=fun e_=>by subst e_; simp_all
 refine AOps.relocal 1 _ rfl (fun j w cs hh hx=>tok_cell 3 5 5 hh (t:=tk11_6) hpG hx rfl) ?_;refine Sf ?_;refine AOps.relocal 1 _ rfl (fun j w cs hh hx=>tok_cell 3 5 5 hh (t:=tk11_6) hpG hx rfl) ?_;refine nil ?_;refine seqJ (TA 8 (TA 11 kN)) (fun(z:Z0×Z11×Z11)=>[]) (fun z=>[Z11.c z.2.1,((intE .i64) z.2.2.FKind++(intE .i64) z.2.2.FInt++strE z.2.2.FText++[Sl.d 5 Z11.c (some tk11_6) z.2.2.FItems]++(fun s=>[Sl.d 1 strE none s]) z.2.2.FKeys)]) (fun z=>((H.set c0 (some (.cells (Z0.c z.1)))).set tk11_6 (some (.tok 5 z.2.2.FItems.l.length)))) (fun z=>coerce_coercer_list_j7 z.1 z.2.1 z.2.2=some r) ?_ ?_
 ·intro K7 hK7;refine seqR (S Mv ?_);refine sLen (f:=Z11.c) (s:=s10_4) (TK rfl) rfl rfl rfl rfl fun hL13=>?_;refine S Mv (nil ?_);refine block ?_;refine loopO (TA 0 (TA 3 (TA 5 (TA 8 (TA 11 (TA 24 (TA 25 kN))))))) (fun(z:Nat×Nat×Z0×Z11×Z11)=>[(26,.a (.d (.int .i64 ((z.2.1:Nat):Int))))]) (fun z=>[Z11.c z.2.2.2.1,((intE .i64) z.2.2.2.2.FKind++(intE .i64) z.2.2.2.2.FInt++strE z.2.2.2.2.FText++[Sl.d 5 Z11.c (some tk11_6) z.2.2.2.2.FItems]++(fun s=>[Sl.d 1 strE none s]) z.2.2.2.2.FKeys)]) (fun z=>((H.set c0 (some (.cells (Z0.c z.2.2.1)))).set tk11_6 (some (.tok 5 z.2.2.2.2.FItems.l.length)))) (fun z=>z.1) (fun z=>coerce_coercer_list_l14 a1 a3 s10_4 (coerce_coercer_at_n n) z.1 z.2.1 z.2.2.1 z.2.2.2.1 z.2.2.2.2=some r) ((s10_4.l.length+1),0,a0,Z11.zero,(Z11.mk (5:Int) (0:Int) ([]:Bs) true ([]) (Sl.nil:Sl Bs))) hE wA ?_
  rintro ⟨n14,s26_15,y16_c0,y17_l0,y18_l1⟩ hE K14 hK14;try dsimp only at hE
  cases n14 with
  | zero=>cases hE
  | succ n14 =>
    rw [coerce_coercer_list_l14] at hE;refine seqR (S BI (nil ?_));refine seqK fun K20 hK20=>?_;refine cE hE (fun hc21 hE=>?_) (fun hc21 hE=>?_)
    ·try dsimp only at hc21
     have hf21:=oD hc21;refine sk hK20 ?_;clear hK20 K20;refine seqK fun K22 hK22=>?_;refine block ?_;refine seqR ?_;obtain⟨x24,gx24,hE⟩:=bO hE;refine S (ix Z11.c s26_15 gx24) (S Ld ?_);refine Sl ?_;refine Sf ?_;refine nil ?_;refine freezeA 13 _ rfl (KA 0 (KA 3 (KA 5 (KA 8 (KA 11 (KA 24 (KA 25 (KA 26 Keeps.nil)))))))) ?_;refine seqR (S Mv (S Ld (S Ld (S Mv ?_))));obtain⟨x26,gx26,hE⟩:=bO hE
     refine s0 (addM rfl rfl gx26) rfl ?_;obtain⟨x27,gx27,hE⟩:=bO hE;refine sH (callH rfl rfl (ih_213 (gT:=gT) (oT:=oT) gx27 _ hpG hpG (by assumption))) rfl ?_;refine hq ((H.set c0 (some (.cells (Z0.c x27.2.2)))).set tk11_6 (some (.tok 5 y18_l1.FItems.l.length))) ?_;refine S Mv (S EX (S EX ?_));refine Sl ?_;refine Sf ?_;refine S As (nil ?_);refine freezeA 14 _ rfl (KA 0 (KA 3 (KA 5 (KA 8 (KA 11 (KA 15 (KA 24 (KA 25 (KA 26 Keeps.nil))))))))) ?_
     refine seqK fun K28 hK28=>?_;refine seqR (S Mv (S BI (nil ?_)));refine cE hE (fun hc30 hE=>?_) (fun hc30 hE=>?_)
     ·refine seqR (S BU (S Mv ?_));refine Sf ?_;refine S As (nil ?_);refine AWp.ret ?_;repeat (first|refine xBlock_ret ?_|refine xThen_ret ?_)
      obtain rfl:=oJ hE;refine retQ.retF (H.set c0 (some (.cells (Z0.c x27.2.2)))) rfl ⟨rfl,rfl⟩ ?_;intro id_ o_ he_;have e_tk11_6:id_≠tk11_6:=fun e_=>by subst e_; simp_all [Heap.set]
      rw [<- he_];simp only [Heap.set] at he_ ⊢
      (repeat' split)<;>simp_all
     refine sk hK28 ?_;clear hK28 K28;refine region ?_;refine S FL (S LL (S Ld (S BV ?_)));obtain⟨x32,gx32,hE⟩:=bO hE;refine SH (am Z11.c (TK rfl) rfl (TK rfl) (TK rfl) gx32) ?_;refine hq ((H.set c0 (some (.cells (Z0.c x27.2.2)))).set tk11_6 (some (.tok 5 x32.l.length))) ?_;refine S FL ?_;refine Sf ?_;refine nil ?_;refine hK22 _ ?_;clear hK22 K22;refine region ?_;refine SI ?_;refine S Mv (nil ?_);exact hK14 _ (n14,(s26_15+1),x27.2.2,y17_l0,(Z11.mk y18_l1.FKind y18_l1.FInt y18_l1.FText x32.nl x32.l y18_l1.FKeys)) wA hE (nS _)
    refine AWp.exit ?_;exact hK7 _ (y16_c0,y17_l0,y18_l1) wA hE
 rintro ⟨y8_c0,y9_l0,y10_l1⟩ hE;try dsimp only at hE
 unfold coerce_coercer_list_j7 at hE;refine seqK fun K11 hK11=>?_;refine AWp.relocal 1 _ rfl (fun j w cs hh hx=>untok_cell 3 hx rfl) ?_;refine AWp.relocal 1 (Z11.c y10_l1) rfl (fun j w cs hh hx=>by rw [Z11.cu_eq]; exact hx) ?_;refine region ?_;refine S LL ?_;refine Sf ?_;refine S As (nil ?_);refine hK11 _ ?_;clear hK11 K11;refine AWp.ret ?_;repeat (first|refine xBlock_ret ?_|refine xThen_ret ?_)
 obtain rfl:=oJ hE;refine retQ.retF (H.set c0 (some (.cells (Z0.c y8_c0)))) rfl ⟨rfl,rfl⟩ ?_;intro id_ o_ he_;have e_tk11_6:id_≠tk11_6:=fun e_=>by subst e_; simp_all [Heap.set]
 rw [<- he_];simp only [Heap.set] at he_ ⊢
 (repeat' split)<;>simp_all
theorem coerce_coercer_object_step (n:Nat) (ih_213:∀{a0:Z0}{a1:TRef}{a2:Z11}{a3:Int}{oT:Ab.Obj}{c0 gT:Nat}{r:Z11×Int×Z0},coerce_coercer_at_n n a0 a1 a2 a3=some r->∀(H:Heap) (hc0:H c0=some (.cells (Z0.c a0))) (hgT:H gT=some oT) (hoT:IsTab Tryz.prog oT),AC Tryz.prog 213 [.d (.ptr c0 0),.agg (TRef.c a1),.agg (Z11.c a2),.d (.int .i64 a3)] H fun v h'=>v=.tup [.agg (Z11.c r.1),.d (.int .i64 r.2.1)]/\h'=(H.set c0 (some (.cells (Z0.c r.2.2))))) (ih_243:∀{a0:Z0}{a1:TRef}{a2:Z11}{a3:Int}{oT:Ab.Obj}{c0 gT:Nat}{r:Z11×Int×Z0},coerce_coercer_list_n n a0 a1 a2 a3=some r->∀(H:Heap) (hc0:H c0=some (.cells (Z0.c a0))) (hgT:H gT=some oT) (hoT:IsTab Tryz.prog oT),AC Tryz.prog 243 [.d (.ptr c0 0),.agg (TRef.c a1),.agg (Z11.c a2),.d (.int .i64 a3)] H fun v h'=>v=.tup [.agg (Z11.c r.1),.d (.int .i64 r.2.1)]/\h'=(H.set c0 (some (.cells (Z0.c r.2.2))))) (ih_244:∀{a0:Z0}{a1:TDef}{a2:Z11}{a3:Int}{oT:Ab.Obj}{c0 gT:Nat}{r:Z11×Int×Z0},coerce_coercer_object_n n a0 a1 a2 a3=some r->∀(H:Heap) (hc0:H c0=some (.cells (Z0.c a0))) (hgT:H gT=some oT) (hoT:IsTab Tryz.prog oT),AC Tryz.prog 244 [.d (.ptr c0 0),.agg (TDef.c a1),.agg (Z11.c a2),.d (.int .i64 a3)] H fun v h'=>v=.tup [.agg (Z11.c r.1),.d (.int .i64 r.2.1)]/\h'=(H.set c0 (some (.cells (Z0.c r.2.2))))) (ih_263:∀{a0:Z0}{a1:Z6}{a2:Int}{oT:Ab.Obj}{c0 gT:Nat}{r:Z11×Int×Z0},Z25_n n a0 a1 a2=some r->∀(H:Heap) (hc0:H c0=some (.cells (Z0.c a0))) (hgT:H gT=some oT) (hoT:IsTab Tryz.prog oT),AC Tryz.prog 263 [.d (.ptr c0 0),.agg (Z6.c a1),.d (.int .i64 a2)] H fun v h'=>v=.tup [.agg (Z11.c r.1),.d (.int .i64 r.2.1)]/\h'=(H.set c0 (some (.cells (Z0.c r.2.2))))):∀{a0:Z0}{a1:TDef}{a2:Z11}{a3:Int}{oT:Ab.Obj}{c0 gT:Nat}{r:Z11×Int×Z0},coerce_coercer_object_n (n+1) a0 a1 a2 a3=some r->∀(H:Heap) (hc0:H c0=some (.cells (Z0.c a0))) (hgT:H gT=some oT) (hoT:IsTab Tryz.prog oT),AC Tryz.prog 244 [.d (.ptr c0 0),.agg (TDef.c a1),.agg (Z11.c a2),.d (.int .i64 a3)] H fun v h'=>v=.tup [.agg (Z11.c r.1),.d (.int .i64 r.2.1)]/\h'=(H.set c0 (some (.cells (Z0.c r.2.2)))):=by
 intro a0 a1 a2 a3 oT c0 gT r hE H hc0 hgT hoT;rw [coerce_coercer_object_n] at hE;refine AC.oW 124 [.cell 8 58,.tmp 9] Tryz.call244 Tryz.func244 ?_;have ne_gT_c0:gT≠c0:=fun e_=>by subst e_; obtain⟨_,_,_,e2_,_⟩:=hoT; simp_all
 refine AWp.heqA (h':=(H.set c0 (some (.cells (Z0.c a0))))) (by funext n_; simp only [Heap.set]; (repeat' split)<;>simp_all) ?_;refine seqR (S BX (S BX ?_));refine Sl ?_;refine S As (nil ?_);refine seqK fun K2 hK2=>?_;refine seqR (S Fv (S Ld (S BI (nil ?_))));refine cE hE (fun hc4 hE=>?_) (fun hc4 hE=>?_)
 ·refine seqR (S BU ?_);refine Sf ?_;refine S As (nil ?_);exact rt hE
 refine sk hK2 ?_;clear hK2 K2;refine seqJ (TA 0 (TA 3 (TA 5 (TA 6 (TA 8 kN))))) (fun(z:Z11)=>[]) (fun z=>[Z11.c z]) (fun z=>(H.set c0 (some (.cells (Z0.c a0))))) (fun z=>coerce_coercer_object_j6 a0 a1 a2 a3 (coerce_coercer_at_n n) (Z25_n n) z=some r) ?_ ?_
 ·intro K6 hK6;refine seqR (S Fv (S Ld ?_));refine sLen (f:=strE) (s:=a2.FKeys) (TK rfl) rfl rfl rfl rfl fun hL65=>?_;refine S Mv (nil ?_);refine block ?_;refine loopO (TA 0 (TA 3 (TA 5 (TA 6 (TA 8 (TA 28 (TA 29 kN))))))) (fun(z:Nat×Nat×Z11)=>[(30,.a (.d (.int .i64 ((z.2.1:Nat):Int))))]) (fun z=>[Z11.c z.2.2]) (fun z=>(H.set c0 (some (.cells (Z0.c a0))))) (fun z=>z.1) (fun z=>coerce_coercer_object_l66 a0 a1 a2 a3 (coerce_coercer_at_n n) (Z25_n n) z.1 z.2.1 z.2.2=some r) ((a2.FKeys.l.length+1),0,Z11.zero) hE wA ?_
  rintro ⟨n66,s30_67,y68_l0⟩ hE K66 hK66;try dsimp only at hE
  cases n66 with
  | zero=>cases hE
  | succ n66 =>
    rw [coerce_coercer_object_l66] at hE;refine seqR (S BI (nil ?_));refine seqK fun K70 hK70=>?_;refine cE hE (fun hc71 hE=>?_) (fun hc71 hE=>?_)
    ·try dsimp only at hc71
     have hf71:=oD hc71;refine sk hK70 ?_;clear hK70 K70;refine seqK fun K72 hK72=>?_;refine block ?_;refine seqR ?_;obtain⟨x74,gx74,hE⟩:=bO hE;refine S (ix strE s30_67 gx74) (S Ld (S As (nil ?_)));refine seqR (S Fv (S Ld (S Mv ?_)));obtain⟨x76,gx76,hE⟩:=bO hE;refine Sc rfl rfl (Z80_walk gx76) ?_;refine S Mv (S EX (S EX ?_));refine Sl ?_;refine Sf ?_;refine S As (nil ?_);refine freezeA 12 _ rfl (KA 0 (KA 3 (KA 5 (KA 6 (KA 8 (KA 13 (KA 28 (KA 29 (KA 30 Keeps.nil))))))))) ?_
     refine seqR (S Mv (S NB (nil ?_)));refine cE hE (fun hc78 hE=>?_) (fun hc78 hE=>?_)
     ·refine seqR (S BU ?_);refine Sf ?_;refine S As (nil ?_);exact rt hE
     refine sk hK72 ?_;clear hK72 K72;refine region ?_;refine SI ?_;refine S Mv (nil ?_);exact hK66 _ (n66,(s30_67+1),y68_l0) wA hE (nS _)
    refine AWp.exit ?_;exact hK6 _ y68_l0 wA hE
 rintro y7_l0 hE;try dsimp only at hE
 unfold coerce_coercer_object_j6 at hE;refine seqR (S BU ?_);refine Sl ?_;refine AOps.tok 5 fun tk14_9 htk14_9=>?_;obtain⟨ne_tk14_9_c0,htk14_9⟩:=Heap.set_fresh htk14_9;have ne_tk14_9_gT:tk14_9≠gT:=fun e_=>by subst e_; simp_all
 refine AOps.relocal 1 _ rfl (fun j w cs hh hx=>tok_cell 3 5 5 hh (t:=tk14_9) hpG hx rfl) ?_;refine AOps.tok 1 fun tk14_10 htk14_10=>?_;obtain⟨ne_tk14_10_tk14_9,htk14_10⟩:=Heap.set_fresh htk14_10;obtain⟨ne_tk14_10_c0,htk14_10⟩:=Heap.set_fresh htk14_10;have ne_tk14_10_gT:tk14_10≠gT:=fun e_=>by subst e_; simp_all
 refine AOps.relocal 1 _ rfl (fun j w cs hh hx=>tok_cell 4 1 1 hh (t:=tk14_10) hpG hx rfl) ?_;refine Sf ?_;refine AOps.relocal 1 _ rfl (fun j w cs hh hx=>tok_cell 3 5 5 hh (t:=tk14_9) hpG hx rfl) ?_;refine AOps.relocal 1 _ rfl (fun j w cs hh hx=>tok_cell 4 1 1 hh (t:=tk14_10) hpG hx rfl) ?_;refine nil ?_;refine seqJ (TA 8 (TA 14 kN)) (fun(z:Z0×Z11×Z11)=>[]) (fun z=>[Z11.c z.2.1,((intE .i64) z.2.2.FKind++(intE .i64) z.2.2.FInt++strE z.2.2.FText++[Sl.d 5 Z11.c (some tk14_9) z.2.2.FItems]++[Sl.d 1 strE (some tk14_10) z.2.2.FKeys])]) (fun z=>(((H.set c0 (some (.cells (Z0.c z.1)))).set tk14_9 (some (.tok 5 z.2.2.FItems.l.length))).set tk14_10 (some (.tok 1 z.2.2.FKeys.l.length)))) (fun z=>coerce_coercer_object_j11 z.1 z.2.1 z.2.2=some r) ?_ ?_
 ·intro K11 hK11;refine seqR (S Fv (S Ld ?_));refine sLen (f:=Z6.c) (s:=a1.FInputs) (TK rfl) rfl rfl rfl rfl fun hL17=>?_;refine S Mv (nil ?_);refine block ?_;refine loopO (TA 0 (TA 3 (TA 5 (TA 6 (TA 8 (TA 14 (TA 47 (TA 48 kN)))))))) (fun(z:Nat×Nat×Z0×Z11×Z11)=>[(49,.a (.d (.int .i64 ((z.2.1:Nat):Int))))]) (fun z=>[Z11.c z.2.2.2.1,((intE .i64) z.2.2.2.2.FKind++(intE .i64) z.2.2.2.2.FInt++strE z.2.2.2.2.FText++[Sl.d 5 Z11.c (some tk14_9) z.2.2.2.2.FItems]++[Sl.d 1 strE (some tk14_10) z.2.2.2.2.FKeys])]) (fun z=>(((H.set c0 (some (.cells (Z0.c z.2.2.1)))).set tk14_9 (some (.tok 5 z.2.2.2.2.FItems.l.length))).set tk14_10 (some (.tok 1 z.2.2.2.2.FKeys.l.length)))) (fun z=>z.1) (fun z=>coerce_coercer_object_l18 a1 a2 a3 (coerce_coercer_at_n n) (Z25_n n) z.1 z.2.1 z.2.2.1 z.2.2.2.1 z.2.2.2.2=some r) ((a1.FInputs.l.length+1),0,a0,y7_l0,(Z11.mk (6:Int) (0:Int) ([]:Bs) true ([]) (Sl.nil:Sl Bs))) hE wA ?_
  rintro ⟨n18,s49_19,y20_c0,y21_l0,y22_l1⟩ hE K18 hK18;try dsimp only at hE
  cases n18 with
  | zero=>cases hE
  | succ n18 =>
    rw [coerce_coercer_object_l18] at hE;refine seqR (S BI (nil ?_));refine seqK fun K24 hK24=>?_;refine cE hE (fun hc25 hE=>?_) (fun hc25 hE=>?_)
    ·try dsimp only at hc25
     have hf25:=oD hc25;refine sk hK24 ?_;clear hK24 K24;refine seqJ (TA 0 (TA 3 (TA 5 (TA 6 (TA 8 (TA 14 (TA 47 (TA 48 (TA 49 kN))))))))) (fun(z:Z0×Z11×Z11)=>[]) (fun z=>[Z11.c z.2.1,((intE .i64) z.2.2.FKind++(intE .i64) z.2.2.FInt++strE z.2.2.FText++[Sl.d 5 Z11.c (some tk14_9) z.2.2.FItems]++[Sl.d 1 strE (some tk14_10) z.2.2.FKeys])]) (fun z=>(((H.set c0 (some (.cells (Z0.c z.1)))).set tk14_9 (some (.tok 5 z.2.2.FItems.l.length))).set tk14_10 (some (.tok 1 z.2.2.FKeys.l.length)))) (fun z=>coerce_coercer_object_j26 s49_19 ((coerce_coercer_object_l18 a1 a2 a3 (coerce_coercer_at_n n) (Z25_n n) n18)) z.1 z.2.1 z.2.2=some r) ?_ ?_
     ·intro K26 hK26;refine block ?_;refine seqR (S Mv ?_);obtain⟨x31,gx31,hE⟩:=bO hE;refine S (ix Z6.c s49_19 gx31) (S Ld ?_);refine Sl ?_;refine S As ?_;refine Sf ?_;refine nil ?_;refine freezeA 16 _ rfl (KA 0 (KA 3 (KA 5 (KA 6 (KA 8 (KA 14 (KA 15 (KA 47 (KA 48 (KA 49 Keeps.nil)))))))))) ?_;refine seqK fun K32 hK32=>?_;refine AWp.seqD (Sd Fv (Sd Ld (Sd Mv ?_)));obtain⟨x34,gx34,hE⟩:=bO hE;refine DOps.s0 (partM (f:=Z6.c) (l:=none) (r:=(some ((s49_19:Nat):Int))) (TK rfl) rfl (TK rfl) rfl rfl trivial rfl gx34) rfl ?_
      refine Sd Fv (Sd Ld ?_);obtain⟨x35,gx35,hE⟩:=bO hE;refine Scd rfl rfl (Z80_walk gx35) ?_;refine Sd Mv (Sd EX (Sd EX ?_));refine DOps.sB (TK rfl) rfl rfl ?_ (by repeat (first|exact Snoc.nil|apply Snoc.cons));refine DOps.sLn (storeLFA (TK rfl) rfl rfl rfl rfl rfl) ?_;refine Sd As ?_;refine DOps.nil (by decide +kernel) ?_;refine freezeA 17 _ rfl (KA 0 (KA 3 (KA 5 (KA 6 (KA 8 (KA 14 (KA 16 (KA 18 (KA 47 (KA 48 (KA 49 Keeps.nil))))))))))) ?_
      refine seqR (S Mv (nil ?_));refine cE hE (fun hc37 hE=>?_) (fun hc37 hE=>?_)
      ·refine AWp.exit ?_;exact hK26 _ (y20_c0,y21_l0,y22_l1) wA hE
      refine sk hK32 ?_;clear hK32 K32;refine seqR (S Ld (S Fv (S Ld ?_)));obtain⟨x39,gx39,hE⟩:=bO hE;refine Sc rfl rfl (Z127_walk gx39) ?_;refine S Mv (S EX (S EX ?_));refine Sl ?_;refine Sf ?_;refine S As (nil ?_);refine freezeA 19 _ rfl (KA 0 (KA 3 (KA 5 (KA 6 (KA 8 (KA 14 (KA 16 (KA 20 (KA 47 (KA 48 (KA 49 Keeps.nil))))))))))) ?_;refine seqR ?_;refine Sl ?_;refine nil ?_;refine seqR (S As (nil ?_))
      refine seqJ (TA 0 (TA 3 (TA 5 (TA 6 (TA 8 (TA 14 (TA 16 (TA 21 (TA 47 (TA 48 (TA 49 kN))))))))))) (fun(z:Int×Z0×Z11)=>[(22,.a (.d (.int .i64 z.1)))]) (fun z=>[Z11.c y21_l0,((intE .i64) y22_l1.FKind++(intE .i64) y22_l1.FInt++strE y22_l1.FText++[Sl.d 5 Z11.c (some tk14_9) y22_l1.FItems]++[Sl.d 1 strE (some tk14_10) y22_l1.FKeys]),Z11.c z.2.2]) (fun z=>(((H.set c0 (some (.cells (Z0.c z.2.1)))).set tk14_9 (some (.tok 5 y22_l1.FItems.l.length))).set tk14_10 (some (.tok 1 y22_l1.FKeys.l.length)))) (fun z=>coerce_coercer_object_j42 s49_19 y21_l0 y22_l1 x31 ((coerce_coercer_object_l18 a1 a2 a3 (coerce_coercer_at_n n) (Z25_n n) n18)) z.1 z.2.1 z.2.2=some r) ?_ ?_
      ·intro K42 hK42;refine block ?_;refine seqR (S Mv (S Mv (G0 Mv (G0 Ld ?_))));obtain⟨x53,gx53,hE⟩:=gO hE;refine gC rfl rfl (fun hC=>ungdA (k:=75) rfl (ungdA (k:=76) rfl (callR rfl rfl (Z24_walk (gx53 hC) _ hpG)))) rfl ?_;refine G1 77 rfl NB ?_;refine S PA (S As (nil ?_));refine cE hE (fun hc54 hE=>?_) (fun hc54 hE=>?_)
       ·refine region ?_;refine S Mv (S Fv (S Ld (S Ld (S Mv ?_))));obtain⟨x55,gx55,hE⟩:=bO hE;refine s0 (addM rfl rfl gx55) rfl ?_;obtain⟨x56,gx56,hE⟩:=bO hE;refine sH (callH rfl rfl (ih_213 (gT:=gT) (oT:=oT) gx56 _ hpG hpG (by assumption))) rfl ?_;refine hq (((H.set c0 (some (.cells (Z0.c x56.2.2)))).set tk14_9 (some (.tok 5 y22_l1.FItems.l.length))).set tk14_10 (some (.tok 1 y22_l1.FKeys.l.length))) ?_
        refine S Mv (S EX (S EX ?_));refine Sf ?_;refine S As (nil ?_);exact hK42 _ (x56.2.1,x56.2.2,x56.1) wA hE
       refine seqR (S Fv (S Ld (S As (nil ?_))));refine cE hE (fun hc58 hE=>?_) (fun hc58 hE=>?_)
       ·refine region ?_;refine S Mv (S Ld (S Mv ?_));obtain⟨x59,gx59,hE⟩:=bO hE;refine s0 (addM rfl rfl gx59) rfl ?_;obtain⟨x60,gx60,hE⟩:=bO hE;refine sH (callH rfl rfl (ih_263 (gT:=gT) (oT:=oT) gx60 _ hpG hpG (by assumption))) rfl ?_;refine hq (((H.set c0 (some (.cells (Z0.c x60.2.2)))).set tk14_9 (some (.tok 5 y22_l1.FItems.l.length))).set tk14_10 (some (.tok 1 y22_l1.FKeys.l.length))) ?_;refine S Mv (S EX (S EX ?_))
        refine Sf ?_;refine S As (nil ?_);exact hK42 _ (x60.2.1,x60.2.2,x60.1) wA hE
       refine seqR (S Fv (S Ld ?_));obtain⟨x62,gx62,hE⟩:=bO hE;refine Sc rfl rfl (Z119_walk gx62) ?_;refine S As (nil ?_);refine cE hE (fun hc63 hE=>?_) (fun hc63 hE=>?_)
       ·refine region ?_;refine S As (nil ?_);exact hK42 _ ((22:Int),y20_c0,Z11.zero) wA hE
       refine AWp.exit ?_;exact hK26 _ (y20_c0,y21_l0,y22_l1) wA hE
      rintro ⟨s22_43,y44_c0,y45_l2⟩ hE;try dsimp only at hE
      unfold coerce_coercer_object_j42 at hE;refine seqK fun K46 hK46=>?_;refine seqR (S Mv (S BI (nil ?_)));refine cE hE (fun hc48 hE=>?_) (fun hc48 hE=>?_)
      ·refine seqR (S BU (S Mv ?_));refine Sf ?_;refine S As (nil ?_);refine AWp.ret ?_;repeat (first|refine xBlock_ret ?_|refine xThen_ret ?_)
       obtain rfl:=oJ hE;refine retQ.retF (H.set c0 (some (.cells (Z0.c y44_c0)))) rfl ⟨rfl,rfl⟩ ?_;intro id_ o_ he_;have e_tk14_9:id_≠tk14_9:=fun e_=>by subst e_; simp_all [Heap.set]
       have e_tk14_10:id_≠tk14_10:=fun e_=>by subst e_; simp_all [Heap.set]
       rw [<- he_];simp only [Heap.set] at he_ ⊢
       (repeat' split)<;>simp_all
      refine sk hK46 ?_;clear hK46 K46;refine AWp.draw rfl ?_;refine Sd FL (Sd LL (Sd Fv (Sd Ld (Sd BV ?_))));obtain⟨x50,gx50,hE⟩:=bO hE;refine DOps.sH (appM (f:=strE) (TK rfl) rfl (TK rfl) (TK rfl) ⟨_,rfl⟩ rfl rfl (by decide) rfl rfl rfl rfl hpG rfl gx50) rfl ?_;refine DOps.Dh (((H.set c0 (some (.cells (Z0.c y44_c0)))).set tk14_9 (some (.tok 5 y22_l1.FItems.l.length))).set tk14_10 (some (.tok 1 x50.l.length))) ?_
      refine Sd FL (Sd LL (Sd LL (Sd BV ?_)));obtain⟨x51,gx51,hE⟩:=bO hE;refine DOps.sH (appM (f:=Z11.c) (TK rfl) rfl (TK rfl) (TK rfl) ⟨_,rfl⟩ rfl rfl (by decide) rfl rfl rfl rfl hpG rfl gx51) rfl ?_;refine DOps.Dh (((H.set c0 (some (.cells (Z0.c y44_c0)))).set tk14_9 (some (.tok 5 x51.l.length))).set tk14_10 (some (.tok 1 x50.l.length))) ?_;refine Sd FL ?_;refine DOps.sLn (storeL1 (TK rfl) rfl rfl rfl rfl (by repeat (first|exact SetAt.zero|apply SetAt.succ)) (by repeat (first|exact SetAt.zero|apply SetAt.succ))) ?_
      refine Sd FL ?_;refine DOps.sLn (storeL1 (TK rfl) rfl rfl rfl rfl (by repeat (first|exact SetAt.zero|apply SetAt.succ)) (by repeat (first|exact SetAt.zero|apply SetAt.succ))) ?_;refine DOps.nil (by decide +kernel) ?_;exact hK26 _ (y44_c0,y21_l0,(Z11.mk y22_l1.FKind y22_l1.FInt y22_l1.FText x51.nl x51.l x50)) wA hE
     rintro ⟨y27_c0,y28_l0,y29_l1⟩ hE;try dsimp only at hE
     unfold coerce_coercer_object_j26 at hE;refine region ?_;refine SI ?_;refine S Mv (nil ?_);exact hK18 _ (n18,(s49_19+1),y27_c0,y28_l0,y29_l1) wA hE (nS _)
    refine AWp.exit ?_;exact hK11 _ (y20_c0,y21_l0,y22_l1) wA hE
 rintro ⟨y12_c0,y13_l0,y14_l1⟩ hE;try dsimp only at hE
 unfold coerce_coercer_object_j11 at hE;refine seqK fun K15 hK15=>?_;refine AWp.relocal 1 _ rfl (fun j w cs hh hx=>untok_cell 3 hx rfl) ?_;refine AWp.relocal 1 _ rfl (fun j w cs hh hx=>untok_cell 4 hx rfl) ?_;refine AWp.relocal 1 (Z11.c y14_l1) rfl (fun j w cs hh hx=>by rw [Z11.cu_eq]; exact hx) ?_;refine region ?_;refine S LL ?_;refine Sf ?_;refine S As (nil ?_);refine hK15 _ ?_;clear hK15 K15;refine AWp.ret ?_
 repeat (first|refine xBlock_ret ?_|refine xThen_ret ?_)
 obtain rfl:=oJ hE;refine retQ.retF (H.set c0 (some (.cells (Z0.c y12_c0)))) rfl ⟨rfl,rfl⟩ ?_;intro id_ o_ he_;have e_tk14_9:id_≠tk14_9:=fun e_=>by subst e_; simp_all [Heap.set]
 have e_tk14_10:id_≠tk14_10:=fun e_=>by subst e_; simp_all [Heap.set]
 rw [<- he_];simp only [Heap.set] at he_ ⊢
 (repeat' split)<;>simp_all
theorem Z25_step (n:Nat) (ih_213:∀{a0:Z0}{a1:TRef}{a2:Z11}{a3:Int}{oT:Ab.Obj}{c0 gT:Nat}{r:Z11×Int×Z0},coerce_coercer_at_n n a0 a1 a2 a3=some r->∀(H:Heap) (hc0:H c0=some (.cells (Z0.c a0))) (hgT:H gT=some oT) (hoT:IsTab Tryz.prog oT),AC Tryz.prog 213 [.d (.ptr c0 0),.agg (TRef.c a1),.agg (Z11.c a2),.d (.int .i64 a3)] H fun v h'=>v=.tup [.agg (Z11.c r.1),.d (.int .i64 r.2.1)]/\h'=(H.set c0 (some (.cells (Z0.c r.2.2))))) (ih_243:∀{a0:Z0}{a1:TRef}{a2:Z11}{a3:Int}{oT:Ab.Obj}{c0 gT:Nat}{r:Z11×Int×Z0},coerce_coercer_list_n n a0 a1 a2 a3=some r->∀(H:Heap) (hc0:H c0=some (.cells (Z0.c a0))) (hgT:H gT=some oT) (hoT:IsTab Tryz.prog oT),AC Tryz.prog 243 [.d (.ptr c0 0),.agg (TRef.c a1),.agg (Z11.c a2),.d (.int .i64 a3)] H fun v h'=>v=.tup [.agg (Z11.c r.1),.d (.int .i64 r.2.1)]/\h'=(H.set c0 (some (.cells (Z0.c r.2.2))))) (ih_244:∀{a0:Z0}{a1:TDef}{a2:Z11}{a3:Int}{oT:Ab.Obj}{c0 gT:Nat}{r:Z11×Int×Z0},coerce_coercer_object_n n a0 a1 a2 a3=some r->∀(H:Heap) (hc0:H c0=some (.cells (Z0.c a0))) (hgT:H gT=some oT) (hoT:IsTab Tryz.prog oT),AC Tryz.prog 244 [.d (.ptr c0 0),.agg (TDef.c a1),.agg (Z11.c a2),.d (.int .i64 a3)] H fun v h'=>v=.tup [.agg (Z11.c r.1),.d (.int .i64 r.2.1)]/\h'=(H.set c0 (some (.cells (Z0.c r.2.2))))) (ih_263:∀{a0:Z0}{a1:Z6}{a2:Int}{oT:Ab.Obj}{c0 gT:Nat}{r:Z11×Int×Z0},Z25_n n a0 a1 a2=some r->∀(H:Heap) (hc0:H c0=some (.cells (Z0.c a0))) (hgT:H gT=some oT) (hoT:IsTab Tryz.prog oT),AC Tryz.prog 263 [.d (.ptr c0 0),.agg (Z6.c a1),.d (.int .i64 a2)] H fun v h'=>v=.tup [.agg (Z11.c r.1),.d (.int .i64 r.2.1)]/\h'=(H.set c0 (some (.cells (Z0.c r.2.2))))):∀{a0:Z0}{a1:Z6}{a2:Int}{oT:Ab.Obj}{c0 gT:Nat}{r:Z11×Int×Z0},Z25_n (n+1) a0 a1 a2=some r->∀(H:Heap) (hc0:H c0=some (.cells (Z0.c a0))) (hgT:H gT=some oT) (hoT:IsTab Tryz.prog oT),AC Tryz.prog 263 [.d (.ptr c0 0),.agg (Z6.c a1),.d (.int .i64 a2)] H fun v h'=>v=.tup [.agg (Z11.c r.1),.d (.int .i64 r.2.1)]/\h'=(H.set c0 (some (.cells (Z0.c r.2.2)))):=by
 intro a0 a1 a2 oT c0 gT r hE H hc0 hgT hoT;rw [Z25_n] at hE
 apply AC.of_wpD (fn:=Tryz.f263) (c:=_) Tryz.tab_ok (fun _ _=>Tryz.call263 _ _) Tryz.func263 rfl (n:=35) rfl (rs:=[.cell 6 58,.tmp 7]) rfl rfl
 have ne_gT_c0:gT≠c0:=fun e_=>by subst e_; obtain⟨_,_,_,e2_,_⟩:=hoT; simp_all
 refine Via.heqA (h':=(H.set c0 (some (.cells (Z0.c a0))))) (by funext n_; simp only [Heap.set]; (repeat' split)<;>simp_all) ?_;refine Via.seqK fun K1 hK1=>?_;refine region ?_;refine S BX (S BX ?_);refine Sl ?_;refine S As (nil ?_);refine hK1 _ ?_;refine Via.seqK fun K2 hK2=>?_;refine AWp.draw rfl ?_;refine Sd Ld (Sd NP ?_);refine DOps.s0 (fieldP (TK rfl) rfl rfl (TK rfl) rfl rfl) rfl ?_;refine DOps.s0 (loadP (TK rfl) rfl rfl hpG rfl) rfl ?_
 refine Sd Ld (Sd NP ?_);refine DOps.s0 (fieldP (TK rfl) rfl rfl (TK rfl) rfl rfl) rfl ?_;refine DOps.s0 (loadP (TK rfl) rfl rfl hpG rfl) rfl ?_;refine DOps.sB (TK rfl) rfl rfl ?_ (by repeat (first|exact Snoc.nil|apply Snoc.cons));refine DOps.sB (TK rfl) rfl rfl ?_ (by repeat (first|exact Snoc.nil|apply Snoc.cons));refine DOps.sLn (storeLFA (TK rfl) rfl rfl rfl rfl rfl) ?_;refine DOps.sLn (storeL1 (TK rfl) rfl rfl rfl rfl (by repeat (first|exact SetAt.zero|apply SetAt.succ)) (by repeat (first|exact SetAt.zero|apply SetAt.succ))) ?_
 refine DOps.nil (by decide +kernel) ?_;refine hK2 _ ?_;clear hK2 K2;refine Via.freeze 9 _ rfl (by repeat (first|exact Snoc.nil|apply Snoc.cons)) (KA 2 (KA 3 (KA 4 (KA 6 (KA 8 Keeps.nil))))) ?_;refine Via.freeze 8 _ rfl (by repeat (first|exact Snoc.nil|apply Snoc.cons)) (KA 2 (KA 3 (KA 4 (KA 6 (KA 9 Keeps.nil))))) ?_;refine Via.seqK fun K3 hK3=>?_;refine AWp.draw rfl ?_;refine Sd Ld (Sd Ld (Sd BU (Sd NP ?_)))
 refine DOps.s0 (fieldP (TK rfl) rfl rfl (TK rfl) rfl rfl) rfl ?_;refine DOps.sHn (storeP' (TK rfl) rfl rfl hpG rfl (Nat.le_of_ble_eq_true rfl) rfl rfl) rfl rfl ?_;refine DOps.Dh (H.set c0 (some (.cells (Z0.c (Z0.mk a0.Fd (Z11.mk (0:Int) (0:Int) ([]:Bs) true ([]) (Sl.nil:Sl Bs)) a0.Fliteral a0.Fnodes))))) ?_;refine Sd NP ?_;refine DOps.s0 (fieldP (TK rfl) rfl rfl (TK rfl) rfl rfl) rfl ?_;refine DOps.sHn (storeP1 (TK rfl) rfl rfl hpG rfl (by repeat (first|exact SetAt.zero|apply SetAt.succ))) rfl rfl ?_
 refine DOps.Dh (H.set c0 (some (.cells (Z0.c (Z0.mk a0.Fd (Z11.mk (0:Int) (0:Int) ([]:Bs) true ([]) (Sl.nil:Sl Bs)) true a0.Fnodes))))) ?_;refine DOps.nil (by decide +kernel) ?_;refine hK3 _ ?_;refine Via.done ⟨_,rfl,rfl,fun amb=>?_⟩;refine seqR (S Ld (S Fv (S Ld (S Fv (S Ld (S Mv ?_))))));obtain⟨x5,gx5,hE⟩:=bO hE;refine sH (callH rfl rfl (ih_213 (gT:=gT) (oT:=oT) gx5 _ hpG hpG (by assumption))) rfl ?_
 refine hq (H.set c0 (some (.cells (Z0.c x5.2.2)))) ?_;refine S EX (S EX ?_);refine Sf ?_;refine S As (nil ?_);obtain⟨x6,gx6,hE⟩:=bO hE;refine AWp.ret ?_;repeat (first|refine xBlock_ret ?_|refine xThen_ret ?_|refine xBlock_normal ?_|refine xThen_exit ?_|refine xBlock_exit ?_)
 refine⟨.inr rfl, ?_⟩;obtain rfl:=oJ hE;refine ACallsD.mono (Z26_walk gx6 _ hpG) fun _ _ ⟨_,e_⟩=>?_;subst e_;refine⟨_,(H.set c0 (some (.cells (Z0.c x6)))),rfl, ?_,⟨rfl,rfl⟩⟩;refine fun id_ o_ he_=>?_;rw [<- he_]; clear he_;exact congrFun (by first|rfl|exact(Heap.set_set _ _ _ _).symm|(rw [Heap.set_set]; rfl)|(funext n_; simp only [Heap.set]; (repeat' split)<;>first|rfl|(exfalso; simp_all; done)|(simp_all; done))) id_
theorem coerce_coercer_at_all:∀(n:Nat),(∀{a0:Z0}{a1:TRef}{a2:Z11}{a3:Int}{oT:Ab.Obj}{c0 gT:Nat}{r:Z11×Int×Z0},coerce_coercer_at_n n a0 a1 a2 a3=some r->∀(H:Heap) (hc0:H c0=some (.cells (Z0.c a0))) (hgT:H gT=some oT) (hoT:IsTab Tryz.prog oT),AC Tryz.prog 213 [.d (.ptr c0 0),.agg (TRef.c a1),.agg (Z11.c a2),.d (.int .i64 a3)] H fun v h'=>v=.tup [.agg (Z11.c r.1),.d (.int .i64 r.2.1)]/\h'=(H.set c0 (some (.cells (Z0.c r.2.2)))))/\(∀{a0:Z0}{a1:TRef}{a2:Z11}{a3:Int}{oT:Ab.Obj}{c0 gT:Nat}{r:Z11×Int×Z0},coerce_coercer_list_n n a0 a1 a2 a3=some r->∀(H:Heap) (hc0:H c0=some (.cells (Z0.c a0))) (hgT:H gT=some oT) (hoT:IsTab Tryz.prog oT),AC Tryz.prog 243 [.d (.ptr c0 0),.agg (TRef.c a1),.agg (Z11.c a2),.d (.int .i64 a3)] H fun v h'=>v=.tup [.agg (Z11.c r.1),.d (.int .i64 r.2.1)]/\h'=(H.set c0 (some (.cells (Z0.c r.2.2)))))/\(∀{a0:Z0}{a1:TDef}{a2:Z11}{a3:Int}{oT:Ab.Obj}{c0 gT:Nat}{r:Z11×Int×Z0},coerce_coercer_object_n n a0 a1 a2 a3=some r->∀(H:Heap) (hc0:H c0=some (.cells (Z0.c a0))) (hgT:H gT=some oT) (hoT:IsTab Tryz.prog oT),AC Tryz.prog 244 [.d (.ptr c0 0),.agg (TDef.c a1),.agg (Z11.c a2),.d (.int .i64 a3)] H fun v h'=>v=.tup [.agg (Z11.c r.1),.d (.int .i64 r.2.1)]/\h'=(H.set c0 (some (.cells (Z0.c r.2.2)))))/\(∀{a0:Z0}{a1:Z6}{a2:Int}{oT:Ab.Obj}{c0 gT:Nat}{r:Z11×Int×Z0},Z25_n n a0 a1 a2=some r->∀(H:Heap) (hc0:H c0=some (.cells (Z0.c a0))) (hgT:H gT=some oT) (hoT:IsTab Tryz.prog oT),AC Tryz.prog 263 [.d (.ptr c0 0),.agg (Z6.c a1),.d (.int .i64 a2)] H fun v h'=>v=.tup [.agg (Z11.c r.1),.d (.int .i64 r.2.1)]/\h'=(H.set c0 (some (.cells (Z0.c r.2.2)))))
 | 0=>⟨fun hE=>by first|cases hE|(rw [coerce_coercer_at_n] at hE; cases hE),fun hE=>by first|cases hE|(rw [coerce_coercer_list_n] at hE; cases hE),fun hE=>by first|cases hE|(rw [coerce_coercer_object_n] at hE; cases hE),fun hE=>by first|cases hE|(rw [Z25_n] at hE; cases hE)⟩
 | n+1=>⟨coerce_coercer_at_step n (coerce_coercer_at_all n).1 (coerce_coercer_at_all n).2.1 (coerce_coercer_at_all n).2.2.1 (coerce_coercer_at_all n).2.2.2,coerce_coercer_list_step n (coerce_coercer_at_all n).1 (coerce_coercer_at_all n).2.1 (coerce_coercer_at_all n).2.2.1 (coerce_coercer_at_all n).2.2.2,coerce_coercer_object_step n (coerce_coercer_at_all n).1 (coerce_coercer_at_all n).2.1 (coerce_coercer_at_all n).2.2.1 (coerce_coercer_at_all n).2.2.2,Z25_step n (coerce_coercer_at_all n).1 (coerce_coercer_at_all n).2.1 (coerce_coercer_at_all n).2.2.1 (coerce_coercer_at_all n).2.2.2⟩
def coerce_coercer_at (a0:Z0) (a1:TRef) (a2:Z11) (a3:Int):Option (Z11×Int×Z0):=coerce_coercer_at_n F0 a0 a1 a2 a3
theorem coerce_coercer_at_walk {a0:Z0}{a1:TRef}{a2:Z11}{a3:Int}{oT:Ab.Obj}{c0 gT:Nat}{r:Z11×Int×Z0}(hE:coerce_coercer_at a0 a1 a2 a3=some r) (H:Heap) (hc0:H c0=some (.cells (Z0.c a0))) (hgT:H gT=some oT) (hoT:IsTab Tryz.prog oT):AC Tryz.prog 213 [.d (.ptr c0 0),.agg (TRef.c a1),.agg (Z11.c a2),.d (.int .i64 a3)] H fun v h'=>v=.tup [.agg (Z11.c r.1),.d (.int .i64 r.2.1)]/\h'=(H.set c0 (some (.cells (Z0.c r.2.2)))):=(coerce_coercer_at_all F0).1 hE H hc0 hgT hoT
end Go.Proofs

namespace Go.Proofs
open Go Go.Ab
open AOps Cert AWp Keeps KeepsT
variable {lou:Lou}
def Z17 (a0:TDoc) (a1:TRef) (a2:Z11):Option (Z11×Int):=(coerce_coercer_at (Z0.mk a0 Z11.zero false (0:Int)) a1 a2 (1:Int)).bind fun x5=>(Z28 x5.1 x5.2.1).bind fun x6=>some (x6.1,x6.2)
theorem Z17_walk {a0:TDoc}{a1:TRef}{a2:Z11}{oT:Ab.Obj}{gT:Nat}{r:Z11×Int}(hE:Z17 a0 a1 a2=some r) (H:Heap) (hgT:H gT=some oT) (hoT:IsTab Tryz.prog oT):AC Tryz.prog 171 [.agg (TDoc.c a0),.agg (TRef.c a1),.agg (Z11.c a2)] H fun v h'=>v=.tup [.agg (Z11.c r.1),.d (.int .i64 r.2)]/\h'=H:=by
 unfold Z17 at hE;refine AC.oW 21 [.cell 6 58,.tmp 7] Tryz.call171 Tryz.func171 ?_;refine seqR (S BX (S BX (S BX ?_)));refine Sl ?_;refine S As (nil ?_);refine seqR (S Ld (S BU ?_));refine sE (StepE.boxO rfl) rfl (fun _ _ _ ⟨id11_3,hid11_3,e1,e2,e3⟩=>?_); subst e1 e2 e3;have ne_id11_3_gT:id11_3≠gT:=fun e_=>by subst e_; simp_all
 refine hq (H.set id11_3 (some (.cells (Z0.c (Z0.mk a0 Z11.zero false (0:Int)))))) ?_;refine S As (nil ?_);refine seqR (S Mv (S Ld (S Ld ?_)));obtain⟨x5,gx5,hE⟩:=bO hE;refine sH (callH rfl rfl (coerce_coercer_at_walk (gT:=gT) (oT:=oT) gx5 _ hpG hpG (by assumption))) rfl ?_;refine hq (H.set id11_3 (some (.cells (Z0.c x5.2.2)))) ?_;refine S EX (S EX ?_);obtain⟨x6,gx6,hE⟩:=bO hE;refine Sc rfl rfl (Z28_walk gx6) ?_
 refine S EX (S EX ?_);refine Sf ?_;refine S As (nil ?_);refine AWp.ret ?_;repeat (first|refine xBlock_ret ?_|refine xThen_ret ?_)
 obtain rfl:=oJ hE;refine retQ.retF H rfl ⟨rfl,rfl⟩ ?_
 first|exact Heap.sub_set hid11_3|(simp only [Heap.set_set]; exact Heap.sub_set hid11_3)
def Z131_j3  (s3_4:Int):Option Int:=some s3_4
def Z131_l8 (a0:Z11) (k_rec_214:Z11->Option Int):Nat->Int->Nat->Option Int
 | 0,_,_=>none
 | n8+1,s3_9,s9_10=>bif (decide (((s9_10:Nat):Int)<((a0.FItems.l.length:Nat):Int))) then((a0.FItems.l[s9_10]?).bind fun x16=>(k_rec_214 x16).bind fun x17=>(addC s3_9 x17).bind fun x18=>(Z131_l8 a0 k_rec_214 n8) x18 (s9_10+1)) else(Z131_j3   s3_9)
def Z131_n:Nat->Z11->Option Int
 | 0,_=>none
 | n+1,a0=>Z131_l8 a0 (Z131_n n) (a0.FItems.l.length+1) (1:Int) 0
theorem Z131_step (n:Nat) (ih_214:∀{a0:Z11}{r:Int},Z131_n n a0=some r->∀(H:Heap),AC Tryz.prog 214 [.agg (Z11.c a0)] H fun v h'=>v=.a (.d (.int .i64 r))/\h'=H):∀{a0:Z11}{r:Int},Z131_n (n+1) a0=some r->∀(H:Heap),AC Tryz.prog 214 [.agg (Z11.c a0)] H fun v h'=>v=.a (.d (.int .i64 r))/\h'=H:=by
 intro a0   r hE H ;rw [Z131_n] at hE;refine AC.oW 19 [.tmp 2] Tryz.call214 Tryz.func214 ?_;refine seqR (S BX (S As (nil ?_)));refine seqR (S As (nil ?_));refine seqJH kN (fun(z:Int)=>[(3,.a (.d (.int .i64 z)))]) (fun z=>H) (fun z=>Z131_j3 z=some r) ?_ ?_
 ·intro K3 hK3;refine seqR (S Fv ?_);refine s0 (loadV (TK rfl) rfl rfl (congrArg (fun x=>some (A.d x)) (Z11.FItemsD_eq _))) rfl ?_;refine sLen (f:=Z11.c) (s:=a0.FItems) (TK rfl) rfl rfl rfl rfl fun hL7=>?_;refine S Mv (nil ?_);refine block ?_;refine loopH (TA 7 (TA 8 kN)) (fun(z:Nat×Int×Nat)=>[(3,.a (.d (.int .i64 z.2.1))),(9,.a (.d (.int .i64 ((z.2.2:Nat):Int))))]) (fun z=>H) (fun z=>z.1) (fun z=>Z131_l8 a0 (Z131_n n) z.1 z.2.1 z.2.2=some r) ((a0.FItems.l.length+1),(1:Int),0) hE wA ?_
  rintro ⟨n8,s3_9,s9_10⟩ hE K8 hK8;try dsimp only at hE
  cases n8 with
  | zero=>cases hE
  | succ n8 =>
    rw [Z131_l8] at hE;refine seqR (S BI (nil ?_));refine seqK fun K12 hK12=>?_;refine cE hE (fun hc13 hE=>?_) (fun hc13 hE=>?_)
    ·try dsimp only at hc13
     have hf13:=oD hc13;refine sk hK12 ?_;clear hK12 K12;refine seqK fun K14 hK14=>?_;refine block ?_;refine seqR ?_;obtain⟨x16,gx16,hE⟩:=bO hE;refine S (ix Z11.c s9_10 gx16) (S Ld ?_);refine Sl ?_;refine Sf ?_;refine nil ?_;refine freezeA 5 _ rfl (KA 3 (KA 7 (KA 8 (KA 9 Keeps.nil)))) ?_;refine region ?_;refine S Mv (S Ld ?_);obtain⟨x17,gx17,hE⟩:=bO hE;refine Sc rfl rfl (ih_214 gx17) ?_
     obtain⟨x18,gx18,hE⟩:=bO hE;refine s0 (addM rfl rfl gx18) rfl ?_;refine S As (nil ?_);refine hK14 _ ?_;clear hK14 K14;refine region ?_;refine SI ?_;refine S Mv (nil ?_);exact hK8 _ (n8,x18,(s9_10+1)) wA hE (nS _)
    refine AWp.exit ?_;exact hK3 _ s3_9 wA hE
 rintro s3_4 hE;try dsimp only at hE
 unfold Z131_j3 at hE;refine seqR (S Mv (S As (nil ?_)));exact rt hE
theorem Z131_all:∀(n:Nat),(∀{a0:Z11}{r:Int},Z131_n n a0=some r->∀(H:Heap),AC Tryz.prog 214 [.agg (Z11.c a0)] H fun v h'=>v=.a (.d (.int .i64 r))/\h'=H)
 | 0=>fun hE=>by first|cases hE|(rw [Z131_n] at hE; cases hE)
 | n+1=>Z131_step n (Z131_all n)
def Z131 (a0:Z11):Option Int:=Z131_n F0 a0
theorem Z131_walk {a0:Z11}{r:Int}(hE:Z131 a0=some r) (H:Heap) :AC Tryz.prog 214 [.agg (Z11.c a0)] H fun v h'=>v=.a (.d (.int .i64 r))/\h'=H:=(Z131_all F0) hE H 
def Z126_j3  (s3_4:Int):Option Int:=(addC s3_4 (1:Int)).bind fun x6=>some x6
def Z126_l9 (a0:Z11) (k_rec_215:Z11->Option Int):Nat->Int->Nat->Option Int
 | 0,_,_=>none
 | n9+1,s3_10,s9_11=>bif (decide (((s9_11:Nat):Int)<((a0.FItems.l.length:Nat):Int))) then((a0.FItems.l[s9_11]?).bind fun x17=>(k_rec_215 x17).bind fun x18=>(Z126_l9 a0 k_rec_215 n9) (if x18>s3_10 then x18 else s3_10) (s9_11+1)) else(Z126_j3   s3_10)
def Z126_n:Nat->Z11->Option Int
 | 0,_=>none
 | n+1,a0=>Z126_l9 a0 (Z126_n n) (a0.FItems.l.length+1) (0:Int) 0
theorem Z126_step (n:Nat) (ih_215:∀{a0:Z11}{r:Int},Z126_n n a0=some r->∀(H:Heap),AC Tryz.prog 215 [.agg (Z11.c a0)] H fun v h'=>v=.a (.d (.int .i64 r))/\h'=H):∀{a0:Z11}{r:Int},Z126_n (n+1) a0=some r->∀(H:Heap),AC Tryz.prog 215 [.agg (Z11.c a0)] H fun v h'=>v=.a (.d (.int .i64 r))/\h'=H:=by
 intro a0   r hE H ;rw [Z126_n] at hE;refine AC.oW 20 [.tmp 2] Tryz.call215 Tryz.func215 ?_;refine seqR (S BX (S As (nil ?_)));refine seqR (S As (nil ?_));refine seqJH kN (fun(z:Int)=>[(3,.a (.d (.int .i64 z)))]) (fun z=>H) (fun z=>Z126_j3 z=some r) ?_ ?_
 ·intro K3 hK3;refine seqR (S Fv ?_);refine s0 (loadV (TK rfl) rfl rfl (congrArg (fun x=>some (A.d x)) (Z11.FItemsD_eq _))) rfl ?_;refine sLen (f:=Z11.c) (s:=a0.FItems) (TK rfl) rfl rfl rfl rfl fun hL8=>?_;refine S Mv (nil ?_);refine block ?_;refine loopH (TA 7 (TA 8 kN)) (fun(z:Nat×Int×Nat)=>[(3,.a (.d (.int .i64 z.2.1))),(9,.a (.d (.int .i64 ((z.2.2:Nat):Int))))]) (fun z=>H) (fun z=>z.1) (fun z=>Z126_l9 a0 (Z126_n n) z.1 z.2.1 z.2.2=some r) ((a0.FItems.l.length+1),(0:Int),0) hE wA ?_
  rintro ⟨n9,s3_10,s9_11⟩ hE K9 hK9;try dsimp only at hE
  cases n9 with
  | zero=>cases hE
  | succ n9 =>
    rw [Z126_l9] at hE;refine seqR (S BI (nil ?_));refine seqK fun K13 hK13=>?_;refine cE hE (fun hc14 hE=>?_) (fun hc14 hE=>?_)
    ·try dsimp only at hc14
     have hf14:=oD hc14;refine sk hK13 ?_;clear hK13 K13;refine seqK fun K15 hK15=>?_;refine block ?_;refine seqR ?_;obtain⟨x17,gx17,hE⟩:=bO hE;refine S (ix Z11.c s9_11 gx17) (S Ld ?_);refine Sl ?_;refine Sf ?_;refine nil ?_;refine freezeA 5 _ rfl (KA 3 (KA 7 (KA 8 (KA 9 Keeps.nil)))) ?_;refine region ?_;refine S Mv (S Ld ?_);obtain⟨x18,gx18,hE⟩:=bO hE;refine Sc rfl rfl (ih_215 gx18) ?_
     refine s0 (maxM rfl rfl) rfl ?_;refine S As (nil ?_);refine hK15 _ ?_;clear hK15 K15;refine region ?_;refine SI ?_;refine S Mv (nil ?_);exact hK9 _ (n9,(if x18>s3_10 then x18 else s3_10),(s9_11+1)) wA hE (nS _)
    refine AWp.exit ?_;exact hK3 _ s3_10 wA hE
 rintro s3_4 hE;try dsimp only at hE
 unfold Z126_j3 at hE;refine seqR (S Mv ?_);obtain⟨x6,gx6,hE⟩:=bO hE;refine s0 (addM rfl rfl gx6) rfl ?_;refine S As (nil ?_);exact rt hE
theorem Z126_all:∀(n:Nat),(∀{a0:Z11}{r:Int},Z126_n n a0=some r->∀(H:Heap),AC Tryz.prog 215 [.agg (Z11.c a0)] H fun v h'=>v=.a (.d (.int .i64 r))/\h'=H)
 | 0=>fun hE=>by first|cases hE|(rw [Z126_n] at hE; cases hE)
 | n+1=>Z126_step n (Z126_all n)
def Z126 (a0:Z11):Option Int:=Z126_n F0 a0
theorem Z126_walk {a0:Z11}{r:Int}(hE:Z126 a0=some r) (H:Heap) :AC Tryz.prog 215 [.agg (Z11.c a0)] H fun v h'=>v=.a (.d (.int .i64 r))/\h'=H:=(Z126_all F0) hE H 
def Z102_j2  :Option Int:=some (-1:Int)
def Z102_l6 (a0:(Sl Bs)) (a1:(Bs->Option Bool)) :Nat->Nat->Option Int
 | 0,_=>none
 | n6+1,s8_7=>bif (decide (((s8_7:Nat):Int)<((a0.l.length:Nat):Int))) then((a0.l[s8_7]?).bind fun x14=>(a1 x14).bind fun x15=>bif x15 then(some ((s8_7:Nat):Int)) else((Z102_l6 a0 a1 n6) (s8_7+1))) else(Z102_j2   )
def Z102 (a0:(Sl Bs)) (a1:(Bs->Option Bool)):Option Int:=Z102_l6 a0 a1 (a0.l.length+1) 0
theorem Z102_walk {a0:Sl Bs}{a1:Bs->Option Bool}{w0:Option Nat}{cl1:List D}{k1:Nat}{r:Int}(hE:Z102 a0 a1=some r) (H:Heap) (hf1:∀x0 r,a1 x0=some r->∀H,AC Tryz.prog k1 ([.d (.str x0)]++cl1.map A.d) H fun v h'=>v=.a (.d (.bool r))/\h'=H):AC Tryz.prog 277 [.d (Sl.d 1 strE w0 a0),.d (.func k1 cl1)] H fun v h'=>v=.a (.d (.int .i64 r))/\h'=H:=by
 unfold Z102 at hE;refine AC.oW 19 [.tmp 4] Tryz.call277 Tryz.func277 ?_;refine seqR (S As (nil ?_));refine seqJH kN (fun(z:Unit)=>[]) (fun z=>H) (fun z=>Z102_j2 =some r) ?_ ?_
 ·intro K2 hK2;refine seqR (S Mv ?_);refine sLen (f:=strE) (s:=a0) (TK rfl) rfl rfl rfl rfl fun hL5=>?_;refine S Mv (nil ?_);refine block ?_;refine loopH (TA 0 (TA 1 (TA 7 kN))) (fun(z:Nat×Nat)=>[(8,.a (.d (.int .i64 ((z.2:Nat):Int))))]) (fun z=>H) (fun z=>z.1) (fun z=>Z102_l6 a0 a1 z.1 z.2=some r) ((a0.l.length+1),0) hE wA ?_;rintro ⟨n6,s8_7⟩ hE K6 hK6;try dsimp only at hE
  cases n6 with
  | zero=>cases hE
  | succ n6 =>
    rw [Z102_l6] at hE;refine seqR (S BI (nil ?_));refine seqK fun K9 hK9=>?_;refine cE hE (fun hc10 hE=>?_) (fun hc10 hE=>?_)
    ·try dsimp only at hc10
     have hf10:=oD hc10;refine sk hK9 ?_;clear hK9 K9;refine seqK fun K11 hK11=>?_;refine block ?_;refine seqR (S Mv (S As (nil ?_)));refine seqR (S Mv (S Mv (S Mv ?_)));obtain⟨x14,gx14,hE⟩:=bO hE;refine S (ix strE s8_7 gx14) (S Ld ?_);obtain⟨x15,gx15,hE⟩:=bO hE;refine s0 (callP rfl rfl (hf1 _ _ gx15)) rfl ?_;refine nil ?_;refine cE hE (fun hc16 hE=>?_) (fun hc16 hE=>?_)
     ·refine seqR (S Mv (S As (nil ?_)));exact rt hE
     refine sk hK11 ?_;clear hK11 K11;refine region ?_;refine SI ?_;refine S Mv (nil ?_);exact hK6 _ (n6,(s8_7+1)) wA hE (nS _)
    refine AWp.exit ?_;exact hK2 _ () wA hE
 rintro _ hE;try dsimp only at hE
 unfold Z102_j2 at hE;refine seqR (S As (nil ?_));exact rt hE
def Z92 (a0:(Sl Bs)) (a1:(Bs->Option Bool)):Option Bool:=(Z102 a0 a1).bind fun x3=>some (decide ((0:Int)<=x3))
theorem Z92_walk {a0:Sl Bs}{a1:Bs->Option Bool}{w0:Option Nat}{cl1:List D}{k1:Nat}{r:Bool}(hE:Z92 a0 a1=some r) (H:Heap) (hf1:∀x0 r,a1 x0=some r->∀H,AC Tryz.prog k1 ([.d (.str x0)]++cl1.map A.d) H fun v h'=>v=.a (.d (.bool r))/\h'=H):AC Tryz.prog 266 [.d (Sl.d 1 strE w0 a0),.d (.func k1 cl1)] H fun v h'=>v=.a (.d (.bool r))/\h'=H:=by
 unfold Z92 at hE;refine AC.oW 9 [.tmp 4] Tryz.call266 Tryz.func266 ?_;refine seqR (S As (nil ?_));refine seqR (S Mv (S Mv ?_));obtain⟨x3,gx3,hE⟩:=bO hE;refine s0 (callP rfl rfl (fun H=>Z102_walk gx3 H hf1)) rfl ?_;refine S BI (S As (nil ?_));exact rt hE
def Z137 (a0:Bs):Option Bool:=(Z114 a0).bind fun x3=>some (!x3)
theorem Z137_walk {a0:Bs}{r:Bool}(hE:Z137 a0=some r) (H:Heap) :AC Tryz.prog 267 [.d (.str a0)] H fun v h'=>v=.a (.d (.bool r))/\h'=H:=by
 unfold Z137 at hE;refine AC.oW 6 [.tmp 2] Tryz.call267 Tryz.func267 ?_;refine seqR (S As (nil ?_));refine seqR (S Mv ?_);obtain⟨x3,gx3,hE⟩:=bO hE;refine Sc rfl rfl (Z114_walk gx3) ?_;refine S NB (S As (nil ?_));exact rt hE
def Z138_j4  (y5_id6_3:(List Bs)):Option Bool:=some false
def Z138_l9 (a0:(Sl Bs)) :Nat->Nat->(List Bs)->Option Bool
 | 0,_,_=>none
 | n9+1,s9_10,y11_id6_3=>bif (decide (((s9_10:Nat):Int)<((a0.l.length:Nat):Int))) then((a0.l[s9_10]?).bind fun x17=>bif (y11_id6_3.contains x17) then(some true) else((Z138_l9 a0 n9) (s9_10+1) (insS y11_id6_3 x17))) else(Z138_j4   y11_id6_3)
def Z138 (a0:(Sl Bs)):Option Bool:=Z138_l9 a0 (a0.l.length+1) 0 ([]:List Bs)
theorem Z138_walk {a0:Sl Bs}{w0:Option Nat}{r:Bool}(hE:Z138 a0=some r) (H:Heap) :AC Tryz.prog 268 [.d (Sl.d 1 strE w0 a0)] H fun v h'=>v=.a (.d (.bool r))/\h'=H:=by
 unfold Z138 at hE;refine AC.oW 19 [.tmp 2] Tryz.call268 Tryz.func268 ?_;refine seqR (S As (nil ?_));refine seqR ?_;refine sE StepE.makeMap rfl (fun _ _ _ ⟨id6_3,hid6_3,e1,e2,e3⟩=>?_); subst e1 e2 e3;refine hq (H.set id6_3 (some (.map (seenM ([]:List Bs))))) ?_;refine S As (nil ?_);refine seqJH kN (fun(z:(List Bs))=>[]) (fun z=>(H.set id6_3 (some (.map (seenM z))))) (fun z=>Z138_j4 z=some r) ?_ ?_
 ·intro K4 hK4;refine seqR (S Mv ?_);refine sLen (f:=strE) (s:=a0) (TK rfl) rfl rfl rfl rfl fun hL8=>?_;refine S Mv (nil ?_);refine block ?_;refine loopH (TA 3 (TA 7 (TA 8 kN))) (fun(z:Nat×Nat×(List Bs))=>[(9,.a (.d (.int .i64 ((z.2.1:Nat):Int))))]) (fun z=>(H.set id6_3 (some (.map (seenM z.2.2))))) (fun z=>z.1) (fun z=>Z138_l9 a0 z.1 z.2.1 z.2.2=some r) ((a0.l.length+1),0,([]:List Bs)) hE wA ?_
  rintro ⟨n9,s9_10,y11_id6_3⟩ hE K9 hK9;try dsimp only at hE
  cases n9 with
  | zero=>cases hE
  | succ n9 =>
    rw [Z138_l9] at hE;refine seqR (S BI (nil ?_));refine seqK fun K13 hK13=>?_;refine cE hE (fun hc14 hE=>?_) (fun hc14 hE=>?_)
    ·try dsimp only at hc14
     have hf14:=oD hc14;refine sk hK13 ?_;clear hK13 K13;refine seqK fun K15 hK15=>?_;refine block ?_;refine seqR ?_;obtain⟨x17,gx17,hE⟩:=bO hE;refine S (ix strE s9_10 gx17) (S Ld (S As (nil ?_)));refine seqK fun K18 hK18=>?_;refine seqR (S Mv (S Mv ?_));refine s0 (lookupSeen (TK rfl) rfl (TK rfl) (TK rfl) rfl rfl rfl rfl hpG) rfl ?_;refine nil ?_;refine cE hE (fun hc20 hE=>?_) (fun hc20 hE=>?_)
     ·refine seqR (S As (nil ?_));refine AWp.ret ?_;repeat (first|refine xBlock_ret ?_|refine xThen_ret ?_)
      obtain rfl:=oJ hE;refine retQ.retF H rfl ⟨rfl,rfl⟩ ?_
      first|exact Heap.sub_set hid6_3|(simp only [Heap.set_set]; exact Heap.sub_set hid6_3)
     refine sk hK18 ?_;clear hK18 K18;refine region ?_;refine S Mv (S Mv ?_);refine sHn (mapUpdate (TK rfl) rfl (TK rfl) rfl rfl rfl rfl hpG (seen_upd _ _) rfl) rfl rfl ?_;refine hq (H.set id6_3 (some (.map (seenM (insS y11_id6_3 x17))))) ?_;refine nil ?_;refine hK15 _ ?_;clear hK15 K15;refine region ?_;refine SI ?_;refine S Mv (nil ?_);exact hK9 _ (n9,(s9_10+1),(insS y11_id6_3 x17)) wA hE (nS _)
    refine AWp.exit ?_;exact hK4 _ y11_id6_3 wA hE
 rintro y5_id6_3 hE;try dsimp only at hE
 unfold Z138_j4 at hE;refine seqR (S As (nil ?_));refine AWp.ret ?_;repeat (first|refine xBlock_ret ?_|refine xThen_ret ?_)
 obtain rfl:=oJ hE;refine retQ.retF H rfl ⟨rfl,rfl⟩ ?_
 first|exact Heap.sub_set hid6_3|(simp only [Heap.set_set]; exact Heap.sub_set hid6_3)
def Z136_j8  :Option Bool:=some false
def Z136_j11 (a0:Z11) (a1:Bool)  (s73_12:Bool):Option Bool:=bif s73_12 then(some true) else(bif (decide (a0.FKind=(1:Int))) then(some ((decide (a0.FInt=(0:Int)))||(decide (a0.FInt=(1:Int))))) else(bif (decide (a0.FKind=(4:Int))) then((Z114 a0.FText).bind fun x21=>some (((x21&&(!(a0.FText==([116,114,117,101]:Bs))))&&(!(a0.FText==([102,97,108,115,101]:Bs))))&&(!(a0.FText==([110,117,108,108]:Bs))))) else(bif (decide (a0.FKind=(7:Int))) then(guardO (a1) (Z114 a0.FText) false fun x25=>some (a1&&x25)) else(bif (decide (a0.FKind=(6:Int))) then(guardO (a1) (Z92 a0.FKeys Z137) false fun x30=>bif (a1&&x30) then(some false) else(guardO ((decide (((a0.FKeys.l.length:Nat):Int)=((a0.FItems.l.length:Nat):Int)))) (Z138 a0.FKeys) false fun x36=>some ((decide (((a0.FKeys.l.length:Nat):Int)=((a0.FItems.l.length:Nat):Int)))&&(!x36)))) else(Z136_j8   )))))
def Z136 (a0:Z11) (a1:Bool):Option Bool:=bif (((((!((decide (a0.FKind=(1:Int)))||(decide (a0.FKind=(2:Int)))))&&(!decide (a0.FInt=(0:Int))))||((!(((decide (a0.FKind=(3:Int)))||(decide (a0.FKind=(4:Int))))||(decide (a0.FKind=(7:Int)))))&&(!(a0.FText==([]:Bs)))))||((!decide (a0.FKind=(6:Int)))&&(decide ((0:Int)<((a0.FKeys.l.length:Nat):Int)))))||(((!decide (a0.FKind=(6:Int)))&&(!decide (a0.FKind=(5:Int))))&&(decide ((0:Int)<((a0.FItems.l.length:Nat):Int))))) then(some false) else(bif (decide (a0.FKind=(0:Int))) then(Z136_j11 a0 a1  (decide (a0.FKind=(0:Int)))) else(bif (decide (a0.FKind=(2:Int))) then(Z136_j11 a0 a1  (decide (a0.FKind=(2:Int)))) else(bif (decide (a0.FKind=(3:Int))) then(Z136_j11 a0 a1  (decide (a0.FKind=(3:Int)))) else(Z136_j11 a0 a1  (decide (a0.FKind=(5:Int)))))))
theorem Z136_walk {a0:Z11}{a1 r:Bool}(hE:Z136 a0 a1=some r) (H:Heap) :AC Tryz.prog 246 [.agg (Z11.c a0),.d (.bool a1)] H fun v h'=>v=.a (.d (.bool r))/\h'=H:=by
 unfold Z136 at hE;refine AC.oW 137 [.tmp 4] Tryz.call246 Tryz.func246 ?_;refine seqR (S BX (S As (nil ?_)));refine seqR (S Fv (S Ld (S BI (S Mv (G0 Fv ?_)))));refine G1 11 rfl Ld ?_;refine G1 12 rfl BI ?_;refine S PO (S As (nil ?_));refine seqR (S Fv (S Ld (S BI (S Mv (G0 Fv ?_)))));refine G1 19 rfl Ld ?_;refine G1 20 rfl BI ?_;refine S PO (S Mv (G0 Fv ?_));refine G1 24 rfl Ld ?_;refine G1 25 rfl BI ?_
 refine S PO (S As (nil ?_));refine seqK fun K4 hK4=>?_;refine seqR (S Mv (S NB (S Mv (G0 Fv ?_))));refine G1 31 rfl Ld ?_;refine G1 32 rfl BI ?_;refine S PA (S Mv (G0 Mv ?_));refine G1 36 rfl NB ?_;refine G1 37 rfl Mv ?_;refine G0 Fv ?_;refine G1 39 rfl Ld ?_;refine G1 40 rfl BS ?_;refine gC rfl rfl (fun hC=>ungdA (k:=38) rfl (pickAndA rfl rfl rfl)) rfl ?_;refine S PO (S Mv (G0 Fv ?_));refine G1 45 rfl Ld ?_
 refine G1 46 rfl BI ?_;refine G1 47 rfl Mv ?_;refine G0 Fv ?_;refine G1 49 rfl Ld ?_;refine gC rfl rfl (fun hC=>ungdA (k:=50) rfl (lenM' (f:=strE) (s:=a0.FKeys) (TK rfl) rfl rfl rfl)) rfl ?_;refine G1 51 rfl BI ?_;refine gC rfl rfl (fun hC=>ungdA (k:=48) rfl (pickAndA rfl rfl rfl)) rfl ?_;refine S PO (S Mv (G0 Fv ?_));refine G1 56 rfl Ld ?_;refine G1 57 rfl BI ?_;refine G1 58 rfl Mv ?_;refine G0 Fv ?_
 refine G1 60 rfl Ld ?_;refine G1 61 rfl BI ?_;refine gC rfl rfl (fun hC=>ungdA (k:=59) rfl (pickAndA rfl rfl rfl)) rfl ?_;refine G1 63 rfl Mv ?_;refine G0 Fv ?_;refine gC rfl rfl (fun hC=>ungdA (k:=65) rfl (loadV (TK rfl) rfl rfl (congrArg (fun x=>some (A.d x)) (Z11.FItemsD_eq _)))) rfl ?_;refine gC rfl rfl (fun hC=>ungdA (k:=66) rfl (lenM' (f:=Z11.c) (s:=a0.FItems) (TK rfl) rfl rfl rfl)) rfl ?_;refine G1 67 rfl BI ?_
 refine gC rfl rfl (fun hC=>ungdA (k:=64) rfl (pickAndA rfl rfl rfl)) rfl ?_;refine S PO (nil ?_);refine cE hE (fun hc6 hE=>?_) (fun hc6 hE=>?_)
 ·refine seqR (S As (nil ?_));exact rt hE
 refine sk hK4 ?_;clear hK4 K4;refine seqJH kN (fun(z:Unit)=>[]) (fun z=>H) (fun z=>Z136_j8 =some r) ?_ ?_
 ·intro K8 hK8;refine seqR (S Fv (S Ld (nil ?_)));refine block ?_;refine seqJH (TA 1 (TA 2 (TA 72 kN))) (fun(z:Bool)=>[(73,.a (.d (.bool z)))]) (fun z=>H) (fun z=>Z136_j11 a0 a1 z=some r) ?_ ?_
  ·intro K11 hK11;refine seqR (S BI (S As (nil ?_)));refine cE hE (fun hc38 hE=>?_) (fun hc38 hE=>?_)
   ·refine AWp.skip ?_;exact hK11 _ (decide (a0.FKind=(0:Int))) wA hE
   refine seqR (S BI (S As (nil ?_)));refine cE hE (fun hc40 hE=>?_) (fun hc40 hE=>?_)
   ·refine AWp.skip ?_;exact hK11 _ (decide (a0.FKind=(2:Int))) wA hE
   refine seqR (S BI (S As (nil ?_)));refine cE hE (fun hc42 hE=>?_) (fun hc42 hE=>?_)
   ·refine AWp.skip ?_;exact hK11 _ (decide (a0.FKind=(3:Int))) wA hE
   refine region ?_;refine S BI (S As (nil ?_));exact hK11 _ (decide (a0.FKind=(5:Int))) wA hE
  rintro s73_12 hE;try dsimp only at hE
  unfold Z136_j11 at hE;refine cE hE (fun hc13 hE=>?_) (fun hc13 hE=>?_)
  ·refine seqR (S As (nil ?_));exact rt hE
  refine seqR (S BI (S As (nil ?_)));refine cE hE (fun hc16 hE=>?_) (fun hc16 hE=>?_)
  ·refine seqR (S Fv (S Ld (S BI (S Mv (G0 Fv ?_)))));refine G1 84 rfl Ld ?_;refine G1 85 rfl BI ?_;refine S PO (S As (nil ?_));exact rt hE
  refine seqR (S BI (S As (nil ?_)));refine cE hE (fun hc19 hE=>?_) (fun hc19 hE=>?_)
  ·refine seqR (S Fv (S Ld ?_));obtain⟨x21,gx21,hE⟩:=bO hE;refine Sc rfl rfl (Z114_walk gx21) ?_;refine S Mv (G0 Fv ?_);refine G1 94 rfl Ld ?_;refine G1 95 rfl BS ?_;refine S PA (S Mv (G0 Fv ?_));refine G1 99 rfl Ld ?_;refine G1 100 rfl BS ?_;refine S PA (S Mv (G0 Fv ?_));refine G1 104 rfl Ld ?_;refine G1 105 rfl BS ?_;refine S PA (S As (nil ?_));exact rt hE
  refine seqR (S BI (S As (nil ?_)));refine cE hE (fun hc23 hE=>?_) (fun hc23 hE=>?_)
  ·refine seqR (S Mv (S Mv (G0 Fv ?_)));refine G1 112 rfl Ld ?_;obtain⟨x25,gx25,hE⟩:=gO hE;refine Gc1 113 rfl rfl rfl rfl rfl (fun hC=>Z114_walk (gx25 hC)) ?_;refine S PA (S As (nil ?_));exact rt hE
  refine seqR (S BI (S As (nil ?_)));refine cE hE (fun hc27 hE=>?_) (fun hc27 hE=>?_)
  ·refine seqK fun K28 hK28=>?_;refine seqR (S Mv (S Mv (G0 Fv ?_)));refine G1 120 rfl Ld ?_;obtain⟨x30,gx30,hE⟩:=gO hE;refine gC rfl rfl (fun hC=>ungdA (k:=121) rfl (callP rfl rfl (fun H=>Z92_walk (gx30 hC) H (fun _ _ hx=>Z137_walk hx)))) rfl ?_;refine S PA (nil ?_);refine cE hE (fun hc31 hE=>?_) (fun hc31 hE=>?_)
   ·refine seqR (S As (nil ?_));exact rt hE
   refine sk hK28 ?_;clear hK28 K28;refine seqR (S Fv (S Ld ?_));refine sLen (f:=strE) (s:=a0.FKeys) (TK rfl) rfl rfl rfl rfl fun hL34=>?_;refine S Fv ?_;refine s0 (loadV (TK rfl) rfl rfl (congrArg (fun x=>some (A.d x)) (Z11.FItemsD_eq _))) rfl ?_;refine sLen (f:=Z11.c) (s:=a0.FItems) (TK rfl) rfl rfl rfl rfl fun hL35=>?_;refine S BI (S Mv (G0 Fv ?_));refine G1 132 rfl Ld ?_;obtain⟨x36,gx36,hE⟩:=gO hE
   refine Gc1 133 rfl rfl rfl rfl rfl (fun hC=>Z138_walk (gx36 hC)) ?_;refine G1 134 rfl NB ?_;refine S PA (S As (nil ?_));exact rt hE
  refine AWp.skip ?_;exact hK8 _ () wA hE
 rintro _ hE;try dsimp only at hE
 unfold Z136_j8 at hE;refine seqR (S As (nil ?_));exact rt hE
end Go.Proofs
